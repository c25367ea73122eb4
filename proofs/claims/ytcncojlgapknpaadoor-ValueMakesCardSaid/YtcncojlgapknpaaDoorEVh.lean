import Derived.Test.YtcncojlgapknpaaDoorDenX
import Derived.Test.YtcncojlgapknpaaDoorDenP
import Derived.Test.YtcncojlgapknpaaDoorProg
namespace Go.Den
open Go Go.Proofs
namespace EV
def h73 (i : Nat) : Option (List Nat × Nat) := if i = 1000006 then some ([0, 3], 0) else none
def h91 (i : Nat) : Option (List Nat × Nat) := if i = 10 then some ([5, 9, 11, 53, 54], 0) else none
def h114 (i : Nat) : Option (List Nat × Nat) := if i = 3 then some ([0, 4, 11, 12], 0) else none
def h134 (i : Nat) : Option (List Nat × Nat) := if i = 1000010 then some ([0, 1, 2, 11], 0) else none
def h160 (i : Nat) : Option (List Nat × Nat) := if i = 1000003 then some ([0, 1, 2], 0) else if i = 1000005 then some ([0, 1, 2], 0) else if i = 17 then some ([2, 8, 9, 10, 11, 13, 14, 15, 16], 0) else if i = 1000021 then some ([2, 8, 9, 10, 11, 13, 14, 15], 0) else if i = 24 then some ([2, 8, 9, 10, 14, 15, 16, 17, 18], 0) else if i = 1000028 then some ([2, 8, 14, 15, 17, 18], 0) else none
def h162 (i : Nat) : Option (List Nat × Nat) := if i = 1000004 then some ([0, 2], 0) else if i = 1000007 then some ([0, 2], 0) else none
def hint (f : FuncId) : Nat → Option (List Nat × Nat) := if f < 134 then (if f < 91 then (if f = 73 then h73 else fun _ => none) else (if f < 114 then (if f = 91 then h91 else fun _ => none) else (if f = 114 then h114 else fun _ => none))) else (if f < 160 then (if f = 134 then h134 else fun _ => none) else (if f < 162 then (if f = 160 then h160 else fun _ => none) else (if f = 162 then h162 else fun _ => none)))
def ext (f : FuncId) : Option (List PV → Option PV) := if f < 112 then (if f < 99 then (if f = 95 then some xCompare else none) else (if f < 101 then (if f = 99 then some xFormatInt else none) else (if f = 101 then some xTrimRight else none))) else (if f < 113 then (if f = 112 then some xCutPrefix else none) else (if f < 117 then (if f = 113 then some xCut else none) else (if f = 117 then some xReplaceAll else none)))
/-- What a function answers. -/
noncomputable abbrev D : FuncId → List PV → Option PV := denI Tryd.prog 6 ext hint
theorem ext_ok (f : FuncId) (g : List PV → Option PV) (args : List PV) (r : PV) (h : ext f = some g) (hr : g args = some r) : FunOk Tryd.prog Tabs f args r := by
  unfold ext at h
  repeat' split at h
  all_goals first | (cases h; done) | skip
  · rename_i e; cases h; subst e; exact xCompare_ok args r hr
  · rename_i e; cases h; subst e; exact xFormatInt_ok args r hr
  · rename_i e; cases h; subst e; exact xTrimRight_ok args r hr
  · rename_i e; cases h; subst e; exact xCutPrefix_ok args r hr
  · rename_i e; cases h; subst e; exact xCut_ok args r hr
  · rename_i e; cases h; subst e; exact xReplaceAll_ok args r hr
end EV
end Go.Den
