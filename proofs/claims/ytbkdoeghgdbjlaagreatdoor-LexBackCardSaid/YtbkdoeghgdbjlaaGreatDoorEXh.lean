import Derived.Test.YtbkdoeghgdbjlaaGreatDoorDenBd
import Derived.Test.YtbkdoeghgdbjlaaGreatDoorDenW
import Derived.Test.YtbkdoeghgdbjlaaGreatDoorDenP
import Derived.Test.YtbkdoeghgdbjlaaGreatDoorProg
namespace Go.Den
open Go Go.Proofs
namespace EX
def h8 (i : Nat) : Option (List Nat × Nat) := if i = 7 then some ([0, 3, 4, 5, 6, 7, 22, 23], 0) else none
def h20 (i : Nat) : Option (List Nat × Nat) := if i = 3 then some ([0, 3, 4], 0) else none
def h48 (i : Nat) : Option (List Nat × Nat) := if i = 5 then some ([0, 5, 6], 0) else none
def h49 (i : Nat) : Option (List Nat × Nat) := if i = 3 then some ([3, 6, 7, 8], 0) else none
def h50 (i : Nat) : Option (List Nat × Nat) := if i = 4 then some ([0, 3, 4, 5], 0) else if i = 1000009 then some ([0, 3, 4, 5, 6], 0) else if i = 1000011 then some ([0, 3, 4, 5, 6], 0) else if i = 1000005 then some ([0, 3, 4, 5], 0) else none
def h51 (i : Nat) : Option (List Nat × Nat) := if i = 5 then some ([0, 2, 3, 4], 0) else if i = 22 then some ([0, 2, 3, 4, 5, 6], 0) else if i = 1000029 then some ([0, 2, 3, 4, 5, 6], 0) else none
def h52 (i : Nat) : Option (List Nat × Nat) := if i = 4 then some ([1, 12, 13, 14], 0) else none
def h54 (i : Nat) : Option (List Nat × Nat) := if i = 4 then some ([1, 12, 13, 14], 0) else none
def h55 (i : Nat) : Option (List Nat × Nat) := if i = 2 then some ([0, 5, 6], 0) else none
def h62 (i : Nat) : Option (List Nat × Nat) := if i = 10 then some ([5, 9, 11, 53, 54], 0) else none
def h64 (i : Nat) : Option (List Nat × Nat) := if i = 1000006 then some ([0, 3], 0) else none
def h66 (i : Nat) : Option (List Nat × Nat) := if i = 1000006 then some ([0, 2, 3], 0) else if i = 9 then some ([0, 2, 3, 4, 5, 6], 0) else if i = 1000017 then some ([0, 2, 3, 4, 5, 6], 0) else if i = 21 then some ([2, 3, 4, 7], 0) else none
def h91 (i : Nat) : Option (List Nat × Nat) := if i = 8 then some ([0, 2, 9], 0) else if i = 13 then some ([0, 2, 61, 62, 63], 0) else none
def h92 (i : Nat) : Option (List Nat × Nat) := if i = 1000007 then some ([3, 4], 0) else if i = 1000010 then some ([4, 5], 0) else if i = 10 then some ([4, 5], 0) else none
def h94 (i : Nat) : Option (List Nat × Nat) := if i = 2 then some ([0, 2, 3], 0) else if i = 6 then some ([0, 2, 3, 4], 0) else if i = 1000009 then some ([0, 2, 3], 0) else none
def h95 (i : Nat) : Option (List Nat × Nat) := if i = 3 then some ([0, 6, 7], 0) else none
def h97 (i : Nat) : Option (List Nat × Nat) := if i = 3 then some ([0, 1, 5, 6], 0) else none
def h104 (i : Nat) : Option (List Nat × Nat) := if i = 3 then some ([0, 4, 11, 12], 0) else none
def h128 (i : Nat) : Option (List Nat × Nat) := if i = 2 then some ([0, 5], 0) else if i = 6 then some ([0, 5, 6], 0) else if i = 1000009 then some ([0, 5], 0) else none
def h129 (i : Nat) : Option (List Nat × Nat) := if i = 3 then some ([0, 4, 5], 0) else none
def h133 (i : Nat) : Option (List Nat × Nat) := if i = 3 then some ([0, 3], 0) else none
def h137 (i : Nat) : Option (List Nat × Nat) := if i = 1000010 then some ([0, 1, 2, 11], 0) else none
def h146 (i : Nat) : Option (List Nat × Nat) := if i = 1000010 then some ([0, 1, 2, 6, 9], 0) else none
def h169 (i : Nat) : Option (List Nat × Nat) := if i = 1000003 then some ([0, 1, 2], 0) else if i = 1000005 then some ([0, 1, 2], 0) else if i = 17 then some ([2, 8, 9, 10, 11, 13, 14, 15, 16], 0) else if i = 1000021 then some ([2, 8, 9, 10, 11, 13, 14, 15], 0) else if i = 24 then some ([2, 8, 9, 10, 14, 15, 16, 17, 18], 0) else if i = 1000028 then some ([2, 8, 14, 15, 17, 18], 0) else none
def h177 (i : Nat) : Option (List Nat × Nat) := if i = 3 then some ([1, 2, 4, 5, 6], 0) else none
def h193 (i : Nat) : Option (List Nat × Nat) := if i = 1000004 then some ([0, 2], 0) else if i = 1000007 then some ([0, 2], 0) else none
def hint (f : FuncId) : Nat → Option (List Nat × Nat) := if f < 92 then (if f < 52 then (if f < 49 then (if f < 20 then (if f = 8 then h8 else fun _ => none) else (if f < 48 then (if f = 20 then h20 else fun _ => none) else (if f = 48 then h48 else fun _ => none))) else (if f < 50 then (if f = 49 then h49 else fun _ => none) else (if f < 51 then (if f = 50 then h50 else fun _ => none) else (if f = 51 then h51 else fun _ => none)))) else (if f < 62 then (if f < 54 then (if f = 52 then h52 else fun _ => none) else (if f < 55 then (if f = 54 then h54 else fun _ => none) else (if f = 55 then h55 else fun _ => none))) else (if f < 66 then (if f < 64 then (if f = 62 then h62 else fun _ => none) else (if f = 64 then h64 else fun _ => none)) else (if f < 91 then (if f = 66 then h66 else fun _ => none) else (if f = 91 then h91 else fun _ => none))))) else (if f < 129 then (if f < 97 then (if f < 94 then (if f = 92 then h92 else fun _ => none) else (if f < 95 then (if f = 94 then h94 else fun _ => none) else (if f = 95 then h95 else fun _ => none))) else (if f < 104 then (if f = 97 then h97 else fun _ => none) else (if f < 128 then (if f = 104 then h104 else fun _ => none) else (if f = 128 then h128 else fun _ => none)))) else (if f < 146 then (if f < 133 then (if f = 129 then h129 else fun _ => none) else (if f < 137 then (if f = 133 then h133 else fun _ => none) else (if f = 137 then h137 else fun _ => none))) else (if f < 177 then (if f < 169 then (if f = 146 then h146 else fun _ => none) else (if f = 169 then h169 else fun _ => none)) else (if f < 193 then (if f = 177 then h177 else fun _ => none) else (if f = 193 then h193 else fun _ => none)))))
def fo117 : List OF := [.cells 138 [(.selfp 0), (.buf 1)], .buf 5]
def fo154 : List OF := [.cells 138 [(.selfp 0), (.buf 1)], .buf 5]
def fo164 : List OF := [.cells 138 [(.selfp 0), (.buf 1)], .buf 5]
def cf : Cf := ⟨6, fun g => if g < 154 then (if g = 117 then some (fo117, true) else none) else (if g < 164 then (if g = 154 then some (fo154, false) else none) else (if g = 164 then some (fo164, false) else none))⟩
def ext (f : FuncId) : Option (List PV → Option PV) := if f < 109 then (if f < 84 then (if f < 79 then (if f = 73 then some xReplaceAll else none) else (if f = 79 then some xJoin else none)) else (if f < 103 then (if f = 84 then some xCutPrefix else none) else (if f < 107 then (if f = 103 then some xCut else none) else (if f = 107 then some xFormatInt else none)))) else (if f < 120 then (if f < 117 then (if f = 109 then some xTrimRight else none) else (if f = 117 then some xBString else none)) else (if f < 131 then (if f = 120 then some xFields else none) else (if f < 154 then (if f = 131 then some xHasPrefix else none) else (if f = 154 then some xCopyCheck else none))))
/-- What a function answers. -/
noncomputable abbrev D : FuncId → List PV → Option PV := denI Tryz.prog cf ext hint
theorem ext_ok (f : FuncId) (g : List PV → Option PV) (args : List PV) (r : PV) (h : ext f = some g) (hr : g args = some r) : FunOk Tryz.prog Tabs2 f args r := by
  unfold ext at h
  repeat' split at h
  all_goals first | (cases h; done) | skip
  · rename_i e; cases h; subst e; exact (xReplaceAll_ok args r hr).more
  · rename_i e; cases h; subst e; exact (xJoin_ok args r hr).more
  · rename_i e; cases h; subst e; exact (xCutPrefix_ok args r hr).more
  · rename_i e; cases h; subst e; exact (xCut_ok args r hr).more
  · rename_i e; cases h; subst e; exact (xFormatInt_ok args r hr).more
  · rename_i e; cases h; subst e; exact (xTrimRight_ok args r hr).more
  · rename_i e; cases h; subst e; exact (xBString_ok args r hr).more
  · rename_i e; cases h; subst e; exact xFields_ok args r hr
  · rename_i e; cases h; subst e; exact (xHasPrefix_ok args r hr).more
  · rename_i e; cases h; subst e; exact (xCopyCheck_ok args r hr).more
end EX
end Go.Den
