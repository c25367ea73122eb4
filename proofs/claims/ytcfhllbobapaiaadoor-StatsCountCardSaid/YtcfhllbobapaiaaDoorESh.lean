import Derived.Test.YtcfhllbobapaiaaDoorDenW
import Derived.Test.YtcfhllbobapaiaaDoorDenP
import Derived.Test.YtcfhllbobapaiaaDoorProg
namespace Go.Den
open Go Go.Proofs
namespace ES
def h7 (i : Nat) : Option (List Nat × Nat) := if i = 8 then some ([0, 1, 5, 6, 7, 26, 27], 0) else none
def h15 (i : Nat) : Option (List Nat × Nat) := if i = 1000006 then some ([0, 3], 0) else none
def h25 (i : Nat) : Option (List Nat × Nat) := if i = 3 then some ([2, 3, 6, 7, 8], 0) else if i = 1000021 then some ([2, 3, 6, 7, 8], 0) else none
def h26 (i : Nat) : Option (List Nat × Nat) := if i = 4 then some ([1, 12, 13, 14], 0) else none
def h28 (i : Nat) : Option (List Nat × Nat) := if i = 3 then some ([0, 3, 4], 0) else none
def h29 (i : Nat) : Option (List Nat × Nat) := if i = 4 then some ([3, 4, 9, 10, 11], 0) else none
def h30 (i : Nat) : Option (List Nat × Nat) := if i = 4 then some ([0, 3, 4, 5], 0) else if i = 1000010 then some ([0, 3, 4, 5], 0) else none
def h31 (i : Nat) : Option (List Nat × Nat) := if i = 4 then some ([4, 6, 16, 17], 0) else none
def h77 (i : Nat) : Option (List Nat × Nat) := if i = 3 then some ([0, 1, 5, 6], 0) else none
def h81 (i : Nat) : Option (List Nat × Nat) := if i = 3 then some ([0, 3], 0) else none
def hint (f : FuncId) : Nat → Option (List Nat × Nat) := if f < 29 then (if f < 25 then (if f < 15 then (if f = 7 then h7 else fun _ => none) else (if f = 15 then h15 else fun _ => none)) else (if f < 26 then (if f = 25 then h25 else fun _ => none) else (if f < 28 then (if f = 26 then h26 else fun _ => none) else (if f = 28 then h28 else fun _ => none)))) else (if f < 31 then (if f < 30 then (if f = 29 then h29 else fun _ => none) else (if f = 30 then h30 else fun _ => none)) else (if f < 77 then (if f = 31 then h31 else fun _ => none) else (if f < 81 then (if f = 77 then h77 else fun _ => none) else (if f = 81 then h81 else fun _ => none))))
def ext (f : FuncId) : Option (List PV → Option PV) := if f < 79 then (if f < 65 then (if f = 63 then some xFormatInt else none) else (if f = 65 then some xTrimRight else none)) else (if f < 80 then (if f = 79 then some xFields else none) else (if f = 80 then some xJoin else none))
/-- What a function answers. -/
noncomputable abbrev D : FuncId → List PV → Option PV := denI Tryd.prog 6 ext hint
theorem ext_ok (f : FuncId) (g : List PV → Option PV) (args : List PV) (r : PV) (h : ext f = some g) (hr : g args = some r) : FunOk Tryd.prog Tabs2 f args r := by
  unfold ext at h
  repeat' split at h
  all_goals first | (cases h; done) | skip
  · rename_i e; cases h; subst e; exact (xFormatInt_ok args r hr).more
  · rename_i e; cases h; subst e; exact (xTrimRight_ok args r hr).more
  · rename_i e; cases h; subst e; exact xFields_ok args r hr
  · rename_i e; cases h; subst e; exact (xJoin_ok args r hr).more
end ES
end Go.Den
