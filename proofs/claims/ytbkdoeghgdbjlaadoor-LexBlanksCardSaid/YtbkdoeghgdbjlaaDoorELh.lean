import Derived.Test.YtbkdoeghgdbjlaaDoorDenBd
import Derived.Test.YtbkdoeghgdbjlaaDoorDenW
import Derived.Test.YtbkdoeghgdbjlaaDoorDenP
import Derived.Test.YtbkdoeghgdbjlaaDoorProg
namespace Go.Den
open Go Go.Proofs
namespace EL
def h4 (i : Nat) : Option (List Nat × Nat) := if i = 7 then some ([0, 1, 7, 10, 11, 55, 56], 0) else if i = 14 then some ([1, 7, 10, 91, 92, 93], 0) else none
def h11 (i : Nat) : Option (List Nat × Nat) := if i = 5 then some ([0, 5, 6], 0) else none
def h13 (i : Nat) : Option (List Nat × Nat) := if i = 4 then some ([1, 12, 13, 14], 0) else none
def h18 (i : Nat) : Option (List Nat × Nat) := if i = 1000006 then some ([0, 3], 0) else none
def h27 (i : Nat) : Option (List Nat × Nat) := if i = 8 then some ([0, 2, 9], 0) else if i = 13 then some ([0, 2, 61, 62, 63], 0) else none
def h28 (i : Nat) : Option (List Nat × Nat) := if i = 3 then some ([3, 6, 7, 8], 0) else none
def h40 (i : Nat) : Option (List Nat × Nat) := if i = 10 then some ([5, 9, 11, 53, 54], 0) else none
def h41 (i : Nat) : Option (List Nat × Nat) := if i = 2 then some ([0, 5], 0) else if i = 6 then some ([0, 5, 6], 0) else if i = 1000009 then some ([0, 5], 0) else none
def h42 (i : Nat) : Option (List Nat × Nat) := if i = 3 then some ([0, 4, 5], 0) else none
def h59 (i : Nat) : Option (List Nat × Nat) := if i = 3 then some ([0, 4, 11, 12], 0) else none
def h83 (i : Nat) : Option (List Nat × Nat) := if i = 1000010 then some ([0, 1, 2, 11], 0) else none
def h88 (i : Nat) : Option (List Nat × Nat) := if i = 1000004 then some ([0, 2], 0) else if i = 1000007 then some ([0, 2], 0) else none
def h101 (i : Nat) : Option (List Nat × Nat) := if i = 1000003 then some ([0, 1, 2], 0) else if i = 1000005 then some ([0, 1, 2], 0) else if i = 17 then some ([2, 8, 9, 10, 11, 13, 14, 15, 16], 0) else if i = 1000021 then some ([2, 8, 9, 10, 11, 13, 14, 15], 0) else if i = 24 then some ([2, 8, 9, 10, 14, 15, 16, 17, 18], 0) else if i = 1000028 then some ([2, 8, 14, 15, 17, 18], 0) else none
def hint (f : FuncId) : Nat → Option (List Nat × Nat) := if f < 40 then (if f < 18 then (if f < 11 then (if f = 4 then h4 else fun _ => none) else (if f < 13 then (if f = 11 then h11 else fun _ => none) else (if f = 13 then h13 else fun _ => none))) else (if f < 27 then (if f = 18 then h18 else fun _ => none) else (if f < 28 then (if f = 27 then h27 else fun _ => none) else (if f = 28 then h28 else fun _ => none)))) else (if f < 59 then (if f < 41 then (if f = 40 then h40 else fun _ => none) else (if f < 42 then (if f = 41 then h41 else fun _ => none) else (if f = 42 then h42 else fun _ => none))) else (if f < 88 then (if f < 83 then (if f = 59 then h59 else fun _ => none) else (if f = 83 then h83 else fun _ => none)) else (if f < 101 then (if f = 88 then h88 else fun _ => none) else (if f = 101 then h101 else fun _ => none))))
def fo38 : List OF := [.cells 71 [(.selfp 0), (.buf 1)], .buf 5]
def fo52 : List OF := [.cells 71 [(.selfp 0), (.buf 1)], .buf 5]
def fo63 : List OF := [.cells 71 [(.selfp 0), (.buf 1)], .buf 5]
def cf : Cf := ⟨6, fun g => if g < 52 then (if g = 38 then some (fo38, true) else none) else (if g < 63 then (if g = 52 then some (fo52, false) else none) else (if g = 63 then some (fo63, false) else none))⟩
def ext (f : FuncId) : Option (List PV → Option PV) := if f < 44 then (if f < 33 then (if f < 19 then (if f = 17 then some xFields else none) else (if f = 19 then some xJoin else none)) else (if f < 35 then (if f = 33 then some xFormatInt else none) else (if f < 38 then (if f = 35 then some xTrimRight else none) else (if f = 38 then some xBString else none)))) else (if f < 52 then (if f < 45 then (if f = 44 then some xHasPrefix else none) else (if f = 45 then some xReplaceAll else none)) else (if f < 57 then (if f = 52 then some xCopyCheck else none) else (if f < 58 then (if f = 57 then some xCutPrefix else none) else (if f = 58 then some xCut else none))))
/-- What a function answers. -/
noncomputable abbrev D : FuncId → List PV → Option PV := denI Tryd.prog cf ext hint
theorem ext_ok (f : FuncId) (g : List PV → Option PV) (args : List PV) (r : PV) (h : ext f = some g) (hr : g args = some r) : FunOk Tryd.prog Tabs2 f args r := by
  unfold ext at h
  repeat' split at h
  all_goals first | (cases h; done) | skip
  · rename_i e; cases h; subst e; exact xFields_ok args r hr
  · rename_i e; cases h; subst e; exact (xJoin_ok args r hr).more
  · rename_i e; cases h; subst e; exact (xFormatInt_ok args r hr).more
  · rename_i e; cases h; subst e; exact (xTrimRight_ok args r hr).more
  · rename_i e; cases h; subst e; exact (xBString_ok args r hr).more
  · rename_i e; cases h; subst e; exact (xHasPrefix_ok args r hr).more
  · rename_i e; cases h; subst e; exact (xReplaceAll_ok args r hr).more
  · rename_i e; cases h; subst e; exact (xCopyCheck_ok args r hr).more
  · rename_i e; cases h; subst e; exact (xCutPrefix_ok args r hr).more
  · rename_i e; cases h; subst e; exact (xCut_ok args r hr).more
end EL
end Go.Den
