import Derived.Test.YtbkdoeghgdbjlaaGreatDoorDenW
import Derived.Test.YtbkdoeghgdbjlaaGreatDoorDenP
import Derived.Test.YtbkdoeghgdbjlaaGreatDoorProg
namespace Go.Den
open Go Go.Proofs
namespace EC
def h4 (i : Nat) : Option (List Nat × Nat) := if i = 5 then some ([0, 1, 5, 22, 23, 24], 0) else none
def h20 (i : Nat) : Option (List Nat × Nat) := if i = 3 then some ([0, 3, 4], 0) else none
def h22 (i : Nat) : Option (List Nat × Nat) := if i = 4 then some ([0, 8, 9], 0) else none
def h31 (i : Nat) : Option (List Nat × Nat) := if i = 3 then some ([3, 11, 12, 13], 0) else none
def h62 (i : Nat) : Option (List Nat × Nat) := if i = 10 then some ([5, 9, 11, 53, 54], 0) else none
def h64 (i : Nat) : Option (List Nat × Nat) := if i = 1000006 then some ([0, 3], 0) else none
def h74 (i : Nat) : Option (List Nat × Nat) := if i = 3 then some ([5, 10, 11, 12], 0) else none
def h76 (i : Nat) : Option (List Nat × Nat) := if i = 2 then some ([0, 1, 5], 0) else none
def h77 (i : Nat) : Option (List Nat × Nat) := if i = 3 then some ([0, 3], 0) else none
def h78 (i : Nat) : Option (List Nat × Nat) := if i = 1000004 then some ([1, 3], 0) else none
def h92 (i : Nat) : Option (List Nat × Nat) := if i = 1000007 then some ([3, 4], 0) else if i = 1000010 then some ([4, 5], 0) else if i = 10 then some ([4, 5], 0) else none
def h104 (i : Nat) : Option (List Nat × Nat) := if i = 3 then some ([0, 4, 11, 12], 0) else none
def h133 (i : Nat) : Option (List Nat × Nat) := if i = 3 then some ([0, 3], 0) else none
def h137 (i : Nat) : Option (List Nat × Nat) := if i = 1000010 then some ([0, 1, 2, 11], 0) else none
def h169 (i : Nat) : Option (List Nat × Nat) := if i = 1000003 then some ([0, 1, 2], 0) else if i = 1000005 then some ([0, 1, 2], 0) else if i = 17 then some ([2, 8, 9, 10, 11, 13, 14, 15, 16], 0) else if i = 1000021 then some ([2, 8, 9, 10, 11, 13, 14, 15], 0) else if i = 24 then some ([2, 8, 9, 10, 14, 15, 16, 17, 18], 0) else if i = 1000028 then some ([2, 8, 14, 15, 17, 18], 0) else none
def h193 (i : Nat) : Option (List Nat × Nat) := if i = 1000004 then some ([0, 2], 0) else if i = 1000007 then some ([0, 2], 0) else none
def hint (f : FuncId) : Nat → Option (List Nat × Nat) := if f < 77 then (if f < 62 then (if f < 22 then (if f < 20 then (if f = 4 then h4 else fun _ => none) else (if f = 20 then h20 else fun _ => none)) else (if f < 31 then (if f = 22 then h22 else fun _ => none) else (if f = 31 then h31 else fun _ => none))) else (if f < 74 then (if f < 64 then (if f = 62 then h62 else fun _ => none) else (if f = 64 then h64 else fun _ => none)) else (if f < 76 then (if f = 74 then h74 else fun _ => none) else (if f = 76 then h76 else fun _ => none)))) else (if f < 133 then (if f < 92 then (if f < 78 then (if f = 77 then h77 else fun _ => none) else (if f = 78 then h78 else fun _ => none)) else (if f < 104 then (if f = 92 then h92 else fun _ => none) else (if f = 104 then h104 else fun _ => none))) else (if f < 169 then (if f < 137 then (if f = 133 then h133 else fun _ => none) else (if f = 137 then h137 else fun _ => none)) else (if f < 193 then (if f = 169 then h169 else fun _ => none) else (if f = 193 then h193 else fun _ => none))))
def cf : Cf := ⟨6, fun g => none⟩
def ext (f : FuncId) : Option (List PV → Option PV) := if f < 103 then (if f < 79 then (if f = 73 then some xReplaceAll else none) else (if f < 84 then (if f = 79 then some xJoin else none) else (if f = 84 then some xCutPrefix else none))) else (if f < 109 then (if f < 107 then (if f = 103 then some xCut else none) else (if f = 107 then some xFormatInt else none)) else (if f < 153 then (if f = 109 then some xTrimRight else none) else (if f = 153 then some xItoa else none)))
/-- What a function answers. -/
noncomputable abbrev D : FuncId → List PV → Option PV := denI Tryz.prog cf ext hint
theorem ext_ok (f : FuncId) (g : List PV → Option PV) (args : List PV) (r : PV) (h : ext f = some g) (hr : g args = some r) : FunOk Tryz.prog Tabs f args r := by
  unfold ext at h
  repeat' split at h
  all_goals first | (cases h; done) | skip
  · rename_i e; cases h; subst e; exact xReplaceAll_ok args r hr
  · rename_i e; cases h; subst e; exact xJoin_ok args r hr
  · rename_i e; cases h; subst e; exact xCutPrefix_ok args r hr
  · rename_i e; cases h; subst e; exact xCut_ok args r hr
  · rename_i e; cases h; subst e; exact xFormatInt_ok args r hr
  · rename_i e; cases h; subst e; exact xTrimRight_ok args r hr
  · rename_i e; cases h; subst e; exact xItoa_ok args r hr
end EC
end Go.Den
