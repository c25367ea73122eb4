import Derived.Test.YtbkdoeghgdbjlaaDoorDenW
import Derived.Test.YtbkdoeghgdbjlaaDoorDenP
import Derived.Test.YtbkdoeghgdbjlaaDoorProg
namespace Go.Den
open Go Go.Proofs
namespace EM
def h6 (i : Nat) : Option (List Nat × Nat) := if i = 4 then some ([3, 4, 9, 10, 11], 0) else none
def h7 (i : Nat) : Option (List Nat × Nat) := if i = 6 then some ([0, 2, 4, 5, 16], 0) else none
def h15 (i : Nat) : Option (List Nat × Nat) := if i = 3 then some ([4, 5, 13, 14], 0) else none
def h18 (i : Nat) : Option (List Nat × Nat) := if i = 1000006 then some ([0, 3], 0) else none
def h23 (i : Nat) : Option (List Nat × Nat) := if i = 4 then some ([0, 3, 4, 5], 0) else none
def h24 (i : Nat) : Option (List Nat × Nat) := if i = 3 then some ([0, 3, 4], 0) else none
def h25 (i : Nat) : Option (List Nat × Nat) := if i = 3 then some ([0, 3], 0) else none
def h40 (i : Nat) : Option (List Nat × Nat) := if i = 10 then some ([5, 9, 11, 53, 54], 0) else none
def h59 (i : Nat) : Option (List Nat × Nat) := if i = 3 then some ([0, 4, 11, 12], 0) else none
def h83 (i : Nat) : Option (List Nat × Nat) := if i = 1000010 then some ([0, 1, 2, 11], 0) else none
def h88 (i : Nat) : Option (List Nat × Nat) := if i = 1000004 then some ([0, 2], 0) else if i = 1000007 then some ([0, 2], 0) else none
def h101 (i : Nat) : Option (List Nat × Nat) := if i = 1000003 then some ([0, 1, 2], 0) else if i = 1000005 then some ([0, 1, 2], 0) else if i = 17 then some ([2, 8, 9, 10, 11, 13, 14, 15, 16], 0) else if i = 1000021 then some ([2, 8, 9, 10, 11, 13, 14, 15], 0) else if i = 24 then some ([2, 8, 9, 10, 14, 15, 16, 17, 18], 0) else if i = 1000028 then some ([2, 8, 14, 15, 17, 18], 0) else none
def hint (f : FuncId) : Nat → Option (List Nat × Nat) := if f < 25 then (if f < 18 then (if f < 7 then (if f = 6 then h6 else fun _ => none) else (if f < 15 then (if f = 7 then h7 else fun _ => none) else (if f = 15 then h15 else fun _ => none))) else (if f < 23 then (if f = 18 then h18 else fun _ => none) else (if f < 24 then (if f = 23 then h23 else fun _ => none) else (if f = 24 then h24 else fun _ => none)))) else (if f < 83 then (if f < 40 then (if f = 25 then h25 else fun _ => none) else (if f < 59 then (if f = 40 then h40 else fun _ => none) else (if f = 59 then h59 else fun _ => none))) else (if f < 88 then (if f = 83 then h83 else fun _ => none) else (if f < 101 then (if f = 88 then h88 else fun _ => none) else (if f = 101 then h101 else fun _ => none))))
def cf : Cf := ⟨6, fun g => none⟩
def ext (f : FuncId) : Option (List PV → Option PV) := if f < 33 then (if f < 19 then (if f = 17 then some xFields else none) else (if f < 20 then (if f = 19 then some xJoin else none) else (if f = 20 then some xSplit else none))) else (if f < 57 then (if f < 35 then (if f = 33 then some xFormatInt else none) else (if f = 35 then some xTrimRight else none)) else (if f < 58 then (if f = 57 then some xCutPrefix else none) else (if f = 58 then some xCut else none)))
/-- What a function answers. -/
noncomputable abbrev D : FuncId → List PV → Option PV := denI Tryd.prog cf ext hint
theorem ext_ok (f : FuncId) (g : List PV → Option PV) (args : List PV) (r : PV) (h : ext f = some g) (hr : g args = some r) : FunOk Tryd.prog Tabs2 f args r := by
  unfold ext at h
  repeat' split at h
  all_goals first | (cases h; done) | skip
  · rename_i e; cases h; subst e; exact xFields_ok args r hr
  · rename_i e; cases h; subst e; exact (xJoin_ok args r hr).more
  · rename_i e; cases h; subst e; exact (xSplit_ok args r hr).more
  · rename_i e; cases h; subst e; exact (xFormatInt_ok args r hr).more
  · rename_i e; cases h; subst e; exact (xTrimRight_ok args r hr).more
  · rename_i e; cases h; subst e; exact (xCutPrefix_ok args r hr).more
  · rename_i e; cases h; subst e; exact (xCut_ok args r hr).more
end EM
end Go.Den
