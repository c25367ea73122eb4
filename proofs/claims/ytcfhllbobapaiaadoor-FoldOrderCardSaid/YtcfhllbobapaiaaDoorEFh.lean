import Derived.Test.YtcfhllbobapaiaaDoorDenBd
import Derived.Test.YtcfhllbobapaiaaDoorDenX
import Derived.Test.YtcfhllbobapaiaaDoorDenP
import Derived.Test.YtcfhllbobapaiaaDoorProg
namespace Go.Den
open Go Go.Proofs
namespace EF
def h9 (i : Nat) : Option (List Nat × Nat) := if i = 5 then some ([0, 3, 13, 14], 0) else none
def h15 (i : Nat) : Option (List Nat × Nat) := if i = 1000006 then some ([0, 3], 0) else none
def h18 (i : Nat) : Option (List Nat × Nat) := if i = 1000007 then some ([3, 4], 0) else if i = 1000010 then some ([4, 5], 0) else if i = 10 then some ([4, 5], 0) else none
def h32 (i : Nat) : Option (List Nat × Nat) := if i = 4 then some ([0, 5], 0) else none
def h35 (i : Nat) : Option (List Nat × Nat) := if i = 7 then some ([1, 4, 6, 7, 8], 0) else none
def h39 (i : Nat) : Option (List Nat × Nat) := if i = 3 then some ([1, 5, 8, 9, 10], 0) else none
def h40 (i : Nat) : Option (List Nat × Nat) := if i = 3 then some ([0, 1, 5, 6], 0) else none
def h41 (i : Nat) : Option (List Nat × Nat) := if i = 2 then some ([0, 3], 0) else none
def h43 (i : Nat) : Option (List Nat × Nat) := if i = 6 then some ([2, 4, 15, 16, 17], 0) else none
def h44 (i : Nat) : Option (List Nat × Nat) := if i = 6 then some ([0, 2, 4, 5], 0) else none
def h45 (i : Nat) : Option (List Nat × Nat) := if i = 3 then some ([2, 3, 7, 8, 9], 0) else none
def h46 (i : Nat) : Option (List Nat × Nat) := if i = 3 then some ([0, 2, 3, 4], 0) else none
def h60 (i : Nat) : Option (List Nat × Nat) := if i = 3 then some ([4, 7, 8, 9], 0) else none
def h61 (i : Nat) : Option (List Nat × Nat) := if i = 3 then some ([0, 2, 3, 4], 0) else none
def h71 (i : Nat) : Option (List Nat × Nat) := if i = 3 then some ([0, 3], 0) else none
def h87 (i : Nat) : Option (List Nat × Nat) := if i = 6 then some ([1, 4, 7, 19, 20, 21], 0) else none
def h89 (i : Nat) : Option (List Nat × Nat) := if i = 5 then some ([0, 3, 4], 0) else none
def h92 (i : Nat) : Option (List Nat × Nat) := if i = 2 then some ([2, 5, 6, 7], 0) else none
def h93 (i : Nat) : Option (List Nat × Nat) := if i = 1000010 then some ([0, 1, 2, 11], 0) else none
def h98 (i : Nat) : Option (List Nat × Nat) := if i = 1000010 then some ([0, 1, 2, 6, 9], 0) else none
def h99 (i : Nat) : Option (List Nat × Nat) := if i = 5 then some ([1, 2, 6, 22, 23, 24], 0) else none
def h137 (i : Nat) : Option (List Nat × Nat) := if i = 6 then some ([3, 5, 14, 15, 16], 0) else none
def h142 (i : Nat) : Option (List Nat × Nat) := if i = 1000003 then some ([0, 1, 2], 0) else if i = 1000005 then some ([0, 1, 2], 0) else if i = 17 then some ([2, 8, 9, 10, 11, 13, 14, 15, 16], 0) else if i = 1000021 then some ([2, 8, 9, 10, 11, 13, 14, 15], 0) else if i = 24 then some ([2, 8, 9, 10, 14, 15, 16, 17, 18], 0) else if i = 1000028 then some ([2, 8, 14, 15, 17, 18], 0) else none
def h144 (i : Nat) : Option (List Nat × Nat) := if i = 1000004 then some ([0, 1, 4, 5], 0) else if i = 5 then some ([0, 1, 4, 5, 6], 0) else none
def h145 (i : Nat) : Option (List Nat × Nat) := if i = 3 then some ([1, 2, 4, 5, 6], 0) else none
def h179 (i : Nat) : Option (List Nat × Nat) := if i = 1000004 then some ([0, 2], 0) else if i = 1000007 then some ([0, 2], 0) else none
def hint (f : FuncId) : Nat → Option (List Nat × Nat) := if f < 61 then (if f < 40 then (if f < 32 then (if f < 15 then (if f = 9 then h9 else fun _ => none) else (if f < 18 then (if f = 15 then h15 else fun _ => none) else (if f = 18 then h18 else fun _ => none))) else (if f < 35 then (if f = 32 then h32 else fun _ => none) else (if f < 39 then (if f = 35 then h35 else fun _ => none) else (if f = 39 then h39 else fun _ => none)))) else (if f < 44 then (if f < 41 then (if f = 40 then h40 else fun _ => none) else (if f < 43 then (if f = 41 then h41 else fun _ => none) else (if f = 43 then h43 else fun _ => none))) else (if f < 46 then (if f < 45 then (if f = 44 then h44 else fun _ => none) else (if f = 45 then h45 else fun _ => none)) else (if f < 60 then (if f = 46 then h46 else fun _ => none) else (if f = 60 then h60 else fun _ => none))))) else (if f < 98 then (if f < 89 then (if f < 71 then (if f = 61 then h61 else fun _ => none) else (if f < 87 then (if f = 71 then h71 else fun _ => none) else (if f = 87 then h87 else fun _ => none))) else (if f < 92 then (if f = 89 then h89 else fun _ => none) else (if f < 93 then (if f = 92 then h92 else fun _ => none) else (if f = 93 then h93 else fun _ => none)))) else (if f < 142 then (if f < 99 then (if f = 98 then h98 else fun _ => none) else (if f < 137 then (if f = 99 then h99 else fun _ => none) else (if f = 137 then h137 else fun _ => none))) else (if f < 145 then (if f < 144 then (if f = 142 then h142 else fun _ => none) else (if f = 144 then h144 else fun _ => none)) else (if f < 179 then (if f = 145 then h145 else fun _ => none) else (if f = 179 then h179 else fun _ => none)))))
def fo115 : List OF := [.cells 126 [(.selfp 0), (.buf 1)], .buf 5]
def fo117 : List OF := [.cells 126 [(.selfp 0), (.buf 1)], .buf 5]
def fo118 : List OF := [.cells 126 [(.selfp 0), (.buf 1)], .buf 5]
def fo157 : List OF := [.cells 126 [(.selfp 0), (.buf 1)], .buf 5]
def cf : Cf := ⟨6, fun g => if g < 118 then (if g < 117 then (if g = 115 then some (fo115, false) else none) else (if g = 117 then some (fo117, false) else none)) else (if g < 157 then (if g = 118 then some (fo118, true) else none) else (if g = 157 then some (fo157, false) else none))⟩
def ext (f : FuncId) : Option (List PV → Option PV) := if f < 118 then (if f < 65 then (if f = 63 then some xFormatInt else none) else (if f = 65 then some xTrimRight else none)) else (if f < 157 then (if f = 118 then some xBString else none) else (if f = 157 then some xCopyCheck else none))
/-- What a function answers. -/
noncomputable abbrev D : FuncId → List PV → Option PV := denI Tryd.prog cf ext hint
theorem ext_ok (f : FuncId) (g : List PV → Option PV) (args : List PV) (r : PV) (h : ext f = some g) (hr : g args = some r) : FunOk Tryd.prog Tabs f args r := by
  unfold ext at h
  repeat' split at h
  all_goals first | (cases h; done) | skip
  · rename_i e; cases h; subst e; exact xFormatInt_ok args r hr
  · rename_i e; cases h; subst e; exact xTrimRight_ok args r hr
  · rename_i e; cases h; subst e; exact xBString_ok args r hr
  · rename_i e; cases h; subst e; exact xCopyCheck_ok args r hr
end EF
end Go.Den
