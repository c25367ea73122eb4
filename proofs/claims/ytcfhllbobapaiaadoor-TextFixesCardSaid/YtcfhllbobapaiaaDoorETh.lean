import Derived.Test.YtcfhllbobapaiaaDoorDenBd
import Derived.Test.YtcfhllbobapaiaaDoorDenW
import Derived.Test.YtcfhllbobapaiaaDoorDenP
import Derived.Test.YtcfhllbobapaiaaDoorProg
namespace Go.Den
open Go Go.Proofs
namespace ET
def h14 (i : Nat) : Option (List Nat × Nat) := if i = 4 then some ([0, 1, 28, 29, 30], 0) else none
def h15 (i : Nat) : Option (List Nat × Nat) := if i = 1000006 then some ([0, 3], 0) else none
def h18 (i : Nat) : Option (List Nat × Nat) := if i = 1000007 then some ([3, 4], 0) else if i = 1000010 then some ([4, 5], 0) else if i = 10 then some ([4, 5], 0) else none
def h21 (i : Nat) : Option (List Nat × Nat) := if i = 1000006 then some ([0, 2, 3], 0) else if i = 9 then some ([0, 2, 3, 4, 5, 6], 0) else if i = 1000017 then some ([0, 2, 3, 4, 5, 6], 0) else if i = 21 then some ([2, 3, 4, 7], 0) else none
def h49 (i : Nat) : Option (List Nat × Nat) := if i = 3 then some ([0, 1, 2, 6, 7, 8], 0) else none
def h51 (i : Nat) : Option (List Nat × Nat) := if i = 5 then some ([0, 1, 4, 5, 6], 0) else none
def h53 (i : Nat) : Option (List Nat × Nat) := if i = 9 then some ([1, 4, 6, 7, 8], 0) else if i = 1000015 then some ([1, 4, 6, 7], 0) else if i = 15 then some ([1, 4, 6, 7], 0) else none
def h57 (i : Nat) : Option (List Nat × Nat) := if i = 3 then some ([3, 7, 8, 9], 0) else if i = 1000008 then some ([3, 5, 7, 8, 9], 0) else none
def h58 (i : Nat) : Option (List Nat × Nat) := if i = 3 then some ([0, 1, 5, 6], 0) else none
def h59 (i : Nat) : Option (List Nat × Nat) := if i = 3 then some ([0, 3, 4], 0) else if i = 9 then some ([0, 3, 4, 5, 6], 0) else none
def h60 (i : Nat) : Option (List Nat × Nat) := if i = 3 then some ([4, 7, 8, 9], 0) else none
def h61 (i : Nat) : Option (List Nat × Nat) := if i = 3 then some ([0, 2, 3, 4], 0) else none
def h71 (i : Nat) : Option (List Nat × Nat) := if i = 3 then some ([0, 3], 0) else none
def h98 (i : Nat) : Option (List Nat × Nat) := if i = 1000010 then some ([0, 1, 2, 6, 9], 0) else none
def h111 (i : Nat) : Option (List Nat × Nat) := if i = 5 then some ([0, 2, 8, 13, 14], 0) else none
def h112 (i : Nat) : Option (List Nat × Nat) := if i = 4 then some ([0, 1, 2, 6, 7], 0) else none
def h113 (i : Nat) : Option (List Nat × Nat) := if i = 4 then some ([1, 5, 6, 12, 13, 14], 0) else none
def h145 (i : Nat) : Option (List Nat × Nat) := if i = 3 then some ([1, 2, 4, 5, 6], 0) else none
def h154 (i : Nat) : Option (List Nat × Nat) := if i = 1000010 then some ([0, 1, 2, 8, 9, 10], 0) else none
def h155 (i : Nat) : Option (List Nat × Nat) := if i = 1000018 then some ([1, 6, 7, 10], 0) else if i = 1000020 then some ([1, 6, 7], 0) else none
def hint (f : FuncId) : Nat → Option (List Nat × Nat) := if f < 60 then (if f < 51 then (if f < 18 then (if f < 15 then (if f = 14 then h14 else fun _ => none) else (if f = 15 then h15 else fun _ => none)) else (if f < 21 then (if f = 18 then h18 else fun _ => none) else (if f < 49 then (if f = 21 then h21 else fun _ => none) else (if f = 49 then h49 else fun _ => none)))) else (if f < 57 then (if f < 53 then (if f = 51 then h51 else fun _ => none) else (if f = 53 then h53 else fun _ => none)) else (if f < 58 then (if f = 57 then h57 else fun _ => none) else (if f < 59 then (if f = 58 then h58 else fun _ => none) else (if f = 59 then h59 else fun _ => none))))) else (if f < 112 then (if f < 71 then (if f < 61 then (if f = 60 then h60 else fun _ => none) else (if f = 61 then h61 else fun _ => none)) else (if f < 98 then (if f = 71 then h71 else fun _ => none) else (if f < 111 then (if f = 98 then h98 else fun _ => none) else (if f = 111 then h111 else fun _ => none)))) else (if f < 145 then (if f < 113 then (if f = 112 then h112 else fun _ => none) else (if f = 113 then h113 else fun _ => none)) else (if f < 154 then (if f = 145 then h145 else fun _ => none) else (if f < 155 then (if f = 154 then h154 else fun _ => none) else (if f = 155 then h155 else fun _ => none)))))
def fo115 : List OF := [.cells 126 [(.selfp 0), (.buf 1)], .buf 5]
def fo116 : List OF := [.cells 126 [(.selfp 0), (.buf 1)], .buf 5]
def fo117 : List OF := [.cells 126 [(.selfp 0), (.buf 1)], .buf 5]
def fo118 : List OF := [.cells 126 [(.selfp 0), (.buf 1)], .buf 5]
def fo157 : List OF := [.cells 126 [(.selfp 0), (.buf 1)], .buf 5]
def cf : Cf := ⟨6, fun g => if g < 117 then (if g < 116 then (if g = 115 then some (fo115, false) else none) else (if g = 116 then some (fo116, false) else none)) else (if g < 118 then (if g = 117 then some (fo117, false) else none) else (if g < 157 then (if g = 118 then some (fo118, true) else none) else (if g = 157 then some (fo157, false) else none)))⟩
def ext (f : FuncId) : Option (List PV → Option PV) := if f < 108 then (if f < 67 then (if f < 65 then (if f = 63 then some xFormatInt else none) else (if f = 65 then some xTrimRight else none)) else (if f < 107 then (if f = 67 then some xCut else none) else (if f = 107 then some xCount else none))) else (if f < 114 then (if f < 110 then (if f = 108 then some xReplaceAll else none) else (if f = 110 then some xRepeat else none)) else (if f < 118 then (if f = 114 then some xSplit else none) else (if f < 157 then (if f = 118 then some xBString else none) else (if f = 157 then some xCopyCheck else none))))
/-- What a function answers. -/
noncomputable abbrev D : FuncId → List PV → Option PV := denI Tryd.prog cf ext hint
theorem ext_ok (f : FuncId) (g : List PV → Option PV) (args : List PV) (r : PV) (h : ext f = some g) (hr : g args = some r) : FunOk Tryd.prog Tabs f args r := by
  unfold ext at h
  repeat' split at h
  all_goals first | (cases h; done) | skip
  · rename_i e; cases h; subst e; exact xFormatInt_ok args r hr
  · rename_i e; cases h; subst e; exact xTrimRight_ok args r hr
  · rename_i e; cases h; subst e; exact xCut_ok args r hr
  · rename_i e; cases h; subst e; exact xCount_ok args r hr
  · rename_i e; cases h; subst e; exact xReplaceAll_ok args r hr
  · rename_i e; cases h; subst e; exact xRepeat_ok args r hr
  · rename_i e; cases h; subst e; exact xSplit_ok args r hr
  · rename_i e; cases h; subst e; exact xBString_ok args r hr
  · rename_i e; cases h; subst e; exact xCopyCheck_ok args r hr
end ET
end Go.Den
