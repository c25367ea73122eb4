import Derived.Test.YtcncojlgapknpaaDoorDenW
import Derived.Test.YtcncojlgapknpaaDoorDenP
import Derived.Test.YtcncojlgapknpaaDoorProg
namespace Go.Den
open Go Go.Proofs
namespace EM
def h41 (i : Nat) : Option (List Nat × Nat) := if i = 4 then some ([3, 4, 9, 10, 11], 0) else none
def h42 (i : Nat) : Option (List Nat × Nat) := if i = 6 then some ([0, 2, 4, 5, 16], 0) else none
def h47 (i : Nat) : Option (List Nat × Nat) := if i = 3 then some ([4, 5, 13, 14], 0) else none
def h73 (i : Nat) : Option (List Nat × Nat) := if i = 1000006 then some ([0, 3], 0) else none
def h78 (i : Nat) : Option (List Nat × Nat) := if i = 4 then some ([0, 3, 4, 5], 0) else none
def h79 (i : Nat) : Option (List Nat × Nat) := if i = 3 then some ([0, 3, 4], 0) else none
def h80 (i : Nat) : Option (List Nat × Nat) := if i = 3 then some ([0, 3], 0) else none
def h91 (i : Nat) : Option (List Nat × Nat) := if i = 10 then some ([5, 9, 11, 53, 54], 0) else none
def h114 (i : Nat) : Option (List Nat × Nat) := if i = 3 then some ([0, 4, 11, 12], 0) else none
def h134 (i : Nat) : Option (List Nat × Nat) := if i = 1000010 then some ([0, 1, 2, 11], 0) else none
def h160 (i : Nat) : Option (List Nat × Nat) := if i = 1000003 then some ([0, 1, 2], 0) else if i = 1000005 then some ([0, 1, 2], 0) else if i = 17 then some ([2, 8, 9, 10, 11, 13, 14, 15, 16], 0) else if i = 1000021 then some ([2, 8, 9, 10, 11, 13, 14, 15], 0) else if i = 24 then some ([2, 8, 9, 10, 14, 15, 16, 17, 18], 0) else if i = 1000028 then some ([2, 8, 14, 15, 17, 18], 0) else none
def h162 (i : Nat) : Option (List Nat × Nat) := if i = 1000004 then some ([0, 2], 0) else if i = 1000007 then some ([0, 2], 0) else none
def hint (f : FuncId) : Nat → Option (List Nat × Nat) := if f < 80 then (if f < 73 then (if f < 42 then (if f = 41 then h41 else fun _ => none) else (if f < 47 then (if f = 42 then h42 else fun _ => none) else (if f = 47 then h47 else fun _ => none))) else (if f < 78 then (if f = 73 then h73 else fun _ => none) else (if f < 79 then (if f = 78 then h78 else fun _ => none) else (if f = 79 then h79 else fun _ => none)))) else (if f < 134 then (if f < 91 then (if f = 80 then h80 else fun _ => none) else (if f < 114 then (if f = 91 then h91 else fun _ => none) else (if f = 114 then h114 else fun _ => none))) else (if f < 160 then (if f = 134 then h134 else fun _ => none) else (if f < 162 then (if f = 160 then h160 else fun _ => none) else (if f = 162 then h162 else fun _ => none))))
def ext (f : FuncId) : Option (List PV → Option PV) := if f < 99 then (if f < 74 then (if f = 72 then some xFields else none) else (if f < 75 then (if f = 74 then some xJoin else none) else (if f = 75 then some xSplit else none))) else (if f < 112 then (if f < 101 then (if f = 99 then some xFormatInt else none) else (if f = 101 then some xTrimRight else none)) else (if f < 113 then (if f = 112 then some xCutPrefix else none) else (if f = 113 then some xCut else none)))
/-- What a function answers. -/
noncomputable abbrev D : FuncId → List PV → Option PV := denI Tryd.prog 6 ext hint
theorem ext_ok (f : FuncId) (g : List PV → Option PV) (args : List PV) (r : PV) (h : ext f = some g) (hr : g args = some r) : FunOk Tryd.prog Tabs2 f args r := by
  unfold ext at h
  repeat' split at h
  all_goals first | (cases h; done) | skip
  · rename_i e; cases h; subst e; exact xFields_ok args r hr
  · rename_i e; cases h; subst e; exact (xJoin_ok args r hr).more
  · rename_i e; cases h; subst e; exact (xSplit_ok args r hr).more
  · rename_i e; cases h; subst e; exact (xFormatInt_ok args r hr).more
  · rename_i e; cases h; subst e; exact (xTrimRight_ok args r hr).more
  · rename_i e; cases h; subst e; exact (xCutPrefix_ok args r hr).more
  · rename_i e; cases h; subst e; exact (xCut_ok args r hr).more
end EM
end Go.Den
