import Derived.Test.YtcncojlgapknpaaDenP
import Derived.Test.YtcncojlgapknpaaProg
namespace Go.Den
open Go Go.Proofs
namespace EA
def h4 (i : Nat) : Option (List Nat × Nat) := if i = 3 then some ([3, 5, 7, 8, 26, 27, 28], 0) else none
def h7 (i : Nat) : Option (List Nat × Nat) := if i = 1000013 then some ([3, 4, 5, 6], 0) else if i = 15 then some ([3, 4, 5, 6, 13, 63, 64, 65], 0) else none
def h8 (i : Nat) : Option (List Nat × Nat) := if i = 3 then some ([3, 4], 0) else none
def h10 (i : Nat) : Option (List Nat × Nat) := if i = 4 then some ([1, 3, 4], 0) else none
def h11 (i : Nat) : Option (List Nat × Nat) := if i = 3 then some ([3, 7, 8, 9], 0) else none
def h12 (i : Nat) : Option (List Nat × Nat) := if i = 5 then some ([5, 6, 7], 0) else none
def h14 (i : Nat) : Option (List Nat × Nat) := if i = 1000008 then some ([3, 4, 6, 8], 0) else if i = 1000010 then some ([3, 6, 8], 0) else none
def h15 (i : Nat) : Option (List Nat × Nat) := if i = 6 then some ([1, 3, 5], 0) else if i = 25 then some ([1, 6], 0) else none
def h16 (i : Nat) : Option (List Nat × Nat) := if i = 3 then some ([1, 3, 4], 0) else none
def h17 (i : Nat) : Option (List Nat × Nat) := if i = 3 then some ([1, 2, 5], 0) else none
def h27 (i : Nat) : Option (List Nat × Nat) := if i = 4 then some ([0, 2, 3], 0) else none
def h30 (i : Nat) : Option (List Nat × Nat) := if i = 3 then some ([0, 3], 0) else none
def h31 (i : Nat) : Option (List Nat × Nat) := if i = 4 then some ([0, 2, 3, 4, 5], 0) else none
def h33 (i : Nat) : Option (List Nat × Nat) := if i = 3 then some ([1, 2], 0) else none
def h34 (i : Nat) : Option (List Nat × Nat) := if i = 3 then some ([0, 1, 5, 6], 0) else none
def h35 (i : Nat) : Option (List Nat × Nat) := if i = 3 then some ([0, 3, 4], 0) else none
def h36 (i : Nat) : Option (List Nat × Nat) := if i = 4 then some ([3, 4, 5], 0) else if i = 1000008 then some ([3, 4, 5], 0) else none
def h37 (i : Nat) : Option (List Nat × Nat) := if i = 4 then some ([0, 1, 5], 0) else none
def h38 (i : Nat) : Option (List Nat × Nat) := if i = 3 then some ([0, 3, 4], 0) else none
def hint (f : FuncId) : Nat → Option (List Nat × Nat) := if f < 17 then (if f < 11 then (if f < 8 then (if f < 7 then (if f = 4 then h4 else fun _ => none) else (if f = 7 then h7 else fun _ => none)) else (if f < 10 then (if f = 8 then h8 else fun _ => none) else (if f = 10 then h10 else fun _ => none))) else (if f < 14 then (if f < 12 then (if f = 11 then h11 else fun _ => none) else (if f = 12 then h12 else fun _ => none)) else (if f < 15 then (if f = 14 then h14 else fun _ => none) else (if f < 16 then (if f = 15 then h15 else fun _ => none) else (if f = 16 then h16 else fun _ => none))))) else (if f < 34 then (if f < 30 then (if f < 27 then (if f = 17 then h17 else fun _ => none) else (if f = 27 then h27 else fun _ => none)) else (if f < 31 then (if f = 30 then h30 else fun _ => none) else (if f < 33 then (if f = 31 then h31 else fun _ => none) else (if f = 33 then h33 else fun _ => none)))) else (if f < 36 then (if f < 35 then (if f = 34 then h34 else fun _ => none) else (if f = 35 then h35 else fun _ => none)) else (if f < 37 then (if f = 36 then h36 else fun _ => none) else (if f < 38 then (if f = 37 then h37 else fun _ => none) else (if f = 38 then h38 else fun _ => none)))))
noncomputable def ext (f : FuncId) : Option (List PV → Option PV) := none
/-- What a function answers. -/
noncomputable abbrev D : FuncId → List PV → Option PV := denI Try.prog 6 ext hint
end EA
end Go.Den
