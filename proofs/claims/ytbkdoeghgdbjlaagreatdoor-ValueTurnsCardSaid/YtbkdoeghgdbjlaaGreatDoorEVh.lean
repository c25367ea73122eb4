import Derived.Test.YtbkdoeghgdbjlaaGreatDoorDenX
import Derived.Test.YtbkdoeghgdbjlaaGreatDoorDenP
import Derived.Test.YtbkdoeghgdbjlaaGreatDoorProg
namespace Go.Den
open Go Go.Proofs
namespace EV
def h20 (i : Nat) : Option (List Nat × Nat) := if i = 3 then some ([0, 3, 4], 0) else none
def h62 (i : Nat) : Option (List Nat × Nat) := if i = 10 then some ([5, 9, 11, 53, 54], 0) else none
def h64 (i : Nat) : Option (List Nat × Nat) := if i = 1000006 then some ([0, 3], 0) else none
def h66 (i : Nat) : Option (List Nat × Nat) := if i = 1000006 then some ([0, 2, 3], 0) else if i = 9 then some ([0, 2, 3, 4, 5, 6], 0) else if i = 1000017 then some ([0, 2, 3, 4, 5, 6], 0) else if i = 21 then some ([2, 3, 4, 7], 0) else none
def h92 (i : Nat) : Option (List Nat × Nat) := if i = 1000007 then some ([3, 4], 0) else if i = 1000010 then some ([4, 5], 0) else if i = 10 then some ([4, 5], 0) else none
def h104 (i : Nat) : Option (List Nat × Nat) := if i = 3 then some ([0, 4, 11, 12], 0) else none
def h133 (i : Nat) : Option (List Nat × Nat) := if i = 3 then some ([0, 3], 0) else none
def h137 (i : Nat) : Option (List Nat × Nat) := if i = 1000010 then some ([0, 1, 2, 11], 0) else none
def h146 (i : Nat) : Option (List Nat × Nat) := if i = 1000010 then some ([0, 1, 2, 6, 9], 0) else none
def h169 (i : Nat) : Option (List Nat × Nat) := if i = 1000003 then some ([0, 1, 2], 0) else if i = 1000005 then some ([0, 1, 2], 0) else if i = 17 then some ([2, 8, 9, 10, 11, 13, 14, 15, 16], 0) else if i = 1000021 then some ([2, 8, 9, 10, 11, 13, 14, 15], 0) else if i = 24 then some ([2, 8, 9, 10, 14, 15, 16, 17, 18], 0) else if i = 1000028 then some ([2, 8, 14, 15, 17, 18], 0) else none
def h177 (i : Nat) : Option (List Nat × Nat) := if i = 3 then some ([1, 2, 4, 5, 6], 0) else none
def h193 (i : Nat) : Option (List Nat × Nat) := if i = 1000004 then some ([0, 2], 0) else if i = 1000007 then some ([0, 2], 0) else none
def hint (f : FuncId) : Nat → Option (List Nat × Nat) := if f < 133 then (if f < 66 then (if f < 62 then (if f = 20 then h20 else fun _ => none) else (if f < 64 then (if f = 62 then h62 else fun _ => none) else (if f = 64 then h64 else fun _ => none))) else (if f < 92 then (if f = 66 then h66 else fun _ => none) else (if f < 104 then (if f = 92 then h92 else fun _ => none) else (if f = 104 then h104 else fun _ => none)))) else (if f < 169 then (if f < 137 then (if f = 133 then h133 else fun _ => none) else (if f < 146 then (if f = 137 then h137 else fun _ => none) else (if f = 146 then h146 else fun _ => none))) else (if f < 177 then (if f = 169 then h169 else fun _ => none) else (if f < 193 then (if f = 177 then h177 else fun _ => none) else (if f = 193 then h193 else fun _ => none))))
def cf : Cf := ⟨6, fun g => none⟩
def ext (f : FuncId) : Option (List PV → Option PV) := if f < 103 then (if f < 84 then (if f = 73 then some xReplaceAll else none) else (if f < 102 then (if f = 84 then some xCutPrefix else none) else (if f = 102 then some xCompare else none))) else (if f < 107 then (if f = 103 then some xCut else none) else (if f < 109 then (if f = 107 then some xFormatInt else none) else (if f = 109 then some xTrimRight else none)))
/-- What a function answers. -/
noncomputable abbrev D : FuncId → List PV → Option PV := denI Tryz.prog cf ext hint
theorem ext_ok (f : FuncId) (g : List PV → Option PV) (args : List PV) (r : PV) (h : ext f = some g) (hr : g args = some r) : FunOk Tryz.prog Tabs f args r := by
  unfold ext at h
  repeat' split at h
  all_goals first | (cases h; done) | skip
  · rename_i e; cases h; subst e; exact xReplaceAll_ok args r hr
  · rename_i e; cases h; subst e; exact xCutPrefix_ok args r hr
  · rename_i e; cases h; subst e; exact xCompare_ok args r hr
  · rename_i e; cases h; subst e; exact xCut_ok args r hr
  · rename_i e; cases h; subst e; exact xFormatInt_ok args r hr
  · rename_i e; cases h; subst e; exact xTrimRight_ok args r hr
end EV
end Go.Den
