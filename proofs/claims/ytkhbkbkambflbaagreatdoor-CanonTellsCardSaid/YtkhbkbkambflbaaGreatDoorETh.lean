import Derived.Test.YtkhbkbkambflbaaGreatDoorDenBd
import Derived.Test.YtkhbkbkambflbaaGreatDoorDenW
import Derived.Test.YtkhbkbkambflbaaGreatDoorDenP
import Derived.Test.YtkhbkbkambflbaaGreatDoorProg
namespace Go.Den
open Go Go.Proofs
namespace ET
def h14 (i : Nat) : Option (List Nat × Nat) := if i = 4 then some ([0, 2, 4, 5], 0) else none
def h25 (i : Nat) : Option (List Nat × Nat) := if i = 1000006 then some ([1, 3], 0) else if i = 1000008 then some ([1, 3], 0) else none
def h26 (i : Nat) : Option (List Nat × Nat) := if i = 3 then some ([3, 4], 0) else none
def h40 (i : Nat) : Option (List Nat × Nat) := if i = 5 then some ([0, 5, 6], 0) else none
def h41 (i : Nat) : Option (List Nat × Nat) := if i = 4 then some ([0, 1, 4, 5], 0) else none
def h43 (i : Nat) : Option (List Nat × Nat) := if i = 2 then some ([1, 7, 8, 9], 0) else none
def h44 (i : Nat) : Option (List Nat × Nat) := if i = 3 then some ([3, 7, 8, 9], 0) else none
def h48 (i : Nat) : Option (List Nat × Nat) := if i = 5 then some ([0, 4, 15, 16], 0) else none
def h49 (i : Nat) : Option (List Nat × Nat) := if i = 5 then some ([0, 4, 20, 21], 0) else none
def h51 (i : Nat) : Option (List Nat × Nat) := if i = 4 then some ([1, 3, 4], 0) else none
def h52 (i : Nat) : Option (List Nat × Nat) := if i = 23 then some ([0, 96, 97, 98], 0) else if i = 1000027 then some ([0, 7, 96, 97, 98], 0) else none
def h54 (i : Nat) : Option (List Nat × Nat) := if i = 19 then some ([1, 4, 5], 0) else if i = 1000023 then some ([1, 4, 5], 0) else none
def h59 (i : Nat) : Option (List Nat × Nat) := if i = 3 then some ([0, 3], 0) else none
def h60 (i : Nat) : Option (List Nat × Nat) := if i = 6 then some ([1, 3, 5], 0) else if i = 25 then some ([1, 6], 0) else none
def h61 (i : Nat) : Option (List Nat × Nat) := if i = 3 then some ([1, 2, 5], 0) else none
def h78 (i : Nat) : Option (List Nat × Nat) := if i = 8 then some ([0, 2, 9], 0) else if i = 13 then some ([0, 2, 61, 62, 63], 0) else none
def h81 (i : Nat) : Option (List Nat × Nat) := if i = 3 then some ([3, 25, 26], 0) else none
def h82 (i : Nat) : Option (List Nat × Nat) := if i = 1000008 then some ([1], 0) else none
def h85 (i : Nat) : Option (List Nat × Nat) := if i = 4 then some ([1, 13, 14, 15], 0) else none
def h99 (i : Nat) : Option (List Nat × Nat) := if i = 1000006 then some ([0, 3], 0) else none
def h106 (i : Nat) : Option (List Nat × Nat) := if i = 1000007 then some ([3, 4], 0) else if i = 1000010 then some ([4, 5], 0) else if i = 10 then some ([4, 5], 0) else none
def h128 (i : Nat) : Option (List Nat × Nat) := if i = 2 then some ([0, 5], 0) else if i = 6 then some ([0, 5, 6], 0) else if i = 1000009 then some ([0, 5], 0) else none
def h129 (i : Nat) : Option (List Nat × Nat) := if i = 3 then some ([0, 4, 5], 0) else none
def h136 (i : Nat) : Option (List Nat × Nat) := if i = 2 then some ([0, 5, 6], 0) else none
def h137 (i : Nat) : Option (List Nat × Nat) := if i = 6 then some ([2, 4, 5, 6, 7, 21], 0) else none
def h155 (i : Nat) : Option (List Nat × Nat) := if i = 5 then some ([0, 4, 5, 7], 0) else if i = 9 then some ([4, 8], 0) else none
def h158 (i : Nat) : Option (List Nat × Nat) := if i = 3 then some ([0, 3], 0) else none
def h159 (i : Nat) : Option (List Nat × Nat) := if i = 3 then some ([0, 3, 4], 0) else none
def h164 (i : Nat) : Option (List Nat × Nat) := if i = 4 then some ([0, 2, 3], 0) else none
def h175 (i : Nat) : Option (List Nat × Nat) := if i = 1000004 then some ([0, 2], 0) else if i = 1000007 then some ([0, 2], 0) else none
def h177 (i : Nat) : Option (List Nat × Nat) := if i = 10 then some ([5, 9, 11, 53, 54], 0) else none
def h185 (i : Nat) : Option (List Nat × Nat) := if i = 5 then some ([4, 12, 13, 14], 0) else none
def h197 (i : Nat) : Option (List Nat × Nat) := if i = 4 then some ([0, 2, 3, 4, 5], 0) else none
def h204 (i : Nat) : Option (List Nat × Nat) := if i = 3 then some ([0, 4, 11, 12], 0) else none
def h207 (i : Nat) : Option (List Nat × Nat) := if i = 4 then some ([0, 4, 5], 0) else none
def h210 (i : Nat) : Option (List Nat × Nat) := if i = 5 then some ([0, 4, 25, 26], 0) else none
def h222 (i : Nat) : Option (List Nat × Nat) := if i = 3 then some ([1, 2], 0) else none
def h223 (i : Nat) : Option (List Nat × Nat) := if i = 3 then some ([0, 1, 5, 6], 0) else none
def h224 (i : Nat) : Option (List Nat × Nat) := if i = 3 then some ([0, 3, 4], 0) else none
def h225 (i : Nat) : Option (List Nat × Nat) := if i = 4 then some ([3, 4, 5], 0) else if i = 1000008 then some ([3, 4, 5], 0) else none
def h227 (i : Nat) : Option (List Nat × Nat) := if i = 1000010 then some ([0, 1, 2, 11], 0) else none
def h233 (i : Nat) : Option (List Nat × Nat) := if i = 2 then some ([0, 3], 0) else none
def h234 (i : Nat) : Option (List Nat × Nat) := if i = 1000011 then some ([0, 2], 0) else none
def h249 (i : Nat) : Option (List Nat × Nat) := if i = 4 then some ([0, 1, 5], 0) else none
def h250 (i : Nat) : Option (List Nat × Nat) := if i = 3 then some ([0, 3, 4], 0) else none
def h253 (i : Nat) : Option (List Nat × Nat) := if i = 1000003 then some ([0, 1, 2], 0) else if i = 1000005 then some ([0, 1, 2], 0) else if i = 17 then some ([2, 8, 9, 10, 11, 13, 14, 15, 16], 0) else if i = 1000021 then some ([2, 8, 9, 10, 11, 13, 14, 15], 0) else if i = 24 then some ([2, 8, 9, 10, 14, 15, 16, 17, 18], 0) else if i = 1000028 then some ([2, 8, 14, 15, 17, 18], 0) else none
def hint (f : FuncId) : Nat → Option (List Nat × Nat) := if f < 136 then (if f < 54 then (if f < 43 then (if f < 26 then (if f < 25 then (if f = 14 then h14 else fun _ => none) else (if f = 25 then h25 else fun _ => none)) else (if f < 40 then (if f = 26 then h26 else fun _ => none) else (if f < 41 then (if f = 40 then h40 else fun _ => none) else (if f = 41 then h41 else fun _ => none)))) else (if f < 49 then (if f < 44 then (if f = 43 then h43 else fun _ => none) else (if f < 48 then (if f = 44 then h44 else fun _ => none) else (if f = 48 then h48 else fun _ => none))) else (if f < 51 then (if f = 49 then h49 else fun _ => none) else (if f < 52 then (if f = 51 then h51 else fun _ => none) else (if f = 52 then h52 else fun _ => none))))) else (if f < 82 then (if f < 61 then (if f < 59 then (if f = 54 then h54 else fun _ => none) else (if f < 60 then (if f = 59 then h59 else fun _ => none) else (if f = 60 then h60 else fun _ => none))) else (if f < 78 then (if f = 61 then h61 else fun _ => none) else (if f < 81 then (if f = 78 then h78 else fun _ => none) else (if f = 81 then h81 else fun _ => none)))) else (if f < 106 then (if f < 85 then (if f = 82 then h82 else fun _ => none) else (if f < 99 then (if f = 85 then h85 else fun _ => none) else (if f = 99 then h99 else fun _ => none))) else (if f < 128 then (if f = 106 then h106 else fun _ => none) else (if f < 129 then (if f = 128 then h128 else fun _ => none) else (if f = 129 then h129 else fun _ => none)))))) else (if f < 207 then (if f < 164 then (if f < 155 then (if f < 137 then (if f = 136 then h136 else fun _ => none) else (if f = 137 then h137 else fun _ => none)) else (if f < 158 then (if f = 155 then h155 else fun _ => none) else (if f < 159 then (if f = 158 then h158 else fun _ => none) else (if f = 159 then h159 else fun _ => none)))) else (if f < 185 then (if f < 175 then (if f = 164 then h164 else fun _ => none) else (if f < 177 then (if f = 175 then h175 else fun _ => none) else (if f = 177 then h177 else fun _ => none))) else (if f < 197 then (if f = 185 then h185 else fun _ => none) else (if f < 204 then (if f = 197 then h197 else fun _ => none) else (if f = 204 then h204 else fun _ => none))))) else (if f < 227 then (if f < 223 then (if f < 210 then (if f = 207 then h207 else fun _ => none) else (if f < 222 then (if f = 210 then h210 else fun _ => none) else (if f = 222 then h222 else fun _ => none))) else (if f < 224 then (if f = 223 then h223 else fun _ => none) else (if f < 225 then (if f = 224 then h224 else fun _ => none) else (if f = 225 then h225 else fun _ => none)))) else (if f < 249 then (if f < 233 then (if f = 227 then h227 else fun _ => none) else (if f < 234 then (if f = 233 then h233 else fun _ => none) else (if f = 234 then h234 else fun _ => none))) else (if f < 250 then (if f = 249 then h249 else fun _ => none) else (if f < 253 then (if f = 250 then h250 else fun _ => none) else (if f = 253 then h253 else fun _ => none))))))
def fo41 : List OF := [.cells 67 [(.sh (.lst 4)), (.sh (.int .i64)), (.sh .bool)]]
def fo42 : List OF := [.cells 67 [(.sh (.lst 4)), (.sh (.int .i64)), (.sh .bool)]]
def fo52 : List OF := [.cells 90 [(.selfp 0), (.buf 1)], .buf 5]
def fo53 : List OF := [.cells 90 [(.selfp 0), (.buf 1)], .buf 5]
def fo79 : List OF := [.cells 67 [(.sh (.lst 4)), (.sh (.int .i64)), (.sh .bool)]]
def fo98 : List OF := [.cells 90 [(.selfp 0), (.buf 1)], .buf 5]
def fo102 : List OF := [.cells 90 [(.selfp 0), (.buf 1)], .buf 5]
def fo103 : List OF := [.cells 90 [(.selfp 0), (.buf 1)], .buf 5]
def fo133 : List OF := [.cells 67 [(.sh (.lst 4)), (.sh (.int .i64)), (.sh .bool)]]
def fo134 : List OF := [.cells 67 [(.sh (.lst 4)), (.sh (.int .i64)), (.sh .bool)]]
def fo147 : List OF := [.cells 90 [(.selfp 0), (.buf 1)], .buf 5]
def fo181 : List OF := [.cells 67 [(.sh (.lst 4)), (.sh (.int .i64)), (.sh .bool)]]
def fo182 : List OF := [.cells 67 [(.sh (.lst 4)), (.sh (.int .i64)), (.sh .bool)]]
def fo207 : List OF := [.cells 67 [(.sh (.lst 4)), (.sh (.int .i64)), (.sh .bool)]]
def fo234 : List OF := [.cells 67 [(.sh (.lst 4)), (.sh (.int .i64)), (.sh .bool)]]
def cf : Cf := ⟨6, fun g => if g < 103 then (if g < 53 then (if g < 42 then (if g = 41 then some (fo41, false) else none) else (if g < 52 then (if g = 42 then some (fo42, false) else none) else (if g = 52 then some (fo52, false) else none))) else (if g < 98 then (if g < 79 then (if g = 53 then some (fo53, true) else none) else (if g = 79 then some (fo79, false) else none)) else (if g < 102 then (if g = 98 then some (fo98, false) else none) else (if g = 102 then some (fo102, false) else none)))) else (if g < 181 then (if g < 134 then (if g < 133 then (if g = 103 then some (fo103, false) else none) else (if g = 133 then some (fo133, false) else none)) else (if g < 147 then (if g = 134 then some (fo134, false) else none) else (if g = 147 then some (fo147, false) else none))) else (if g < 207 then (if g < 182 then (if g = 181 then some (fo181, false) else none) else (if g = 182 then some (fo182, false) else none)) else (if g < 234 then (if g = 207 then some (fo207, false) else none) else (if g = 234 then some (fo234, false) else none))))⟩
def ext (f : FuncId) : Option (List PV → Option PV) := if f < 147 then (if f < 112 then (if f < 53 then (if f = 47 then some xCutPrefix else none) else (if f = 53 then some xBString else none)) else (if f < 131 then (if f = 112 then some xItoa else none) else (if f < 132 then (if f = 131 then some xFields else none) else (if f = 132 then some xHasPrefix else none)))) else (if f < 184 then (if f < 149 then (if f = 147 then some xCopyCheck else none) else (if f < 151 then (if f = 149 then some xFormatInt else none) else (if f = 151 then some xTrimRight else none))) else (if f < 193 then (if f = 184 then some xCut else none) else (if f < 209 then (if f = 193 then some xReplaceAll else none) else (if f = 209 then some xSplit else none))))
/-- What a function answers. -/
noncomputable abbrev D : FuncId → List PV → Option PV := denI Tryz.prog cf ext hint
theorem ext_ok (f : FuncId) (g : List PV → Option PV) (args : List PV) (r : PV) (h : ext f = some g) (hr : g args = some r) : FunOk Tryz.prog Tabs2 f args r := by
  unfold ext at h
  repeat' split at h
  all_goals first | (cases h; done) | skip
  · rename_i e; cases h; subst e; exact (xCutPrefix_ok args r hr).more
  · rename_i e; cases h; subst e; exact (xBString_ok args r hr).more
  · rename_i e; cases h; subst e; exact (xItoa_ok args r hr).more
  · rename_i e; cases h; subst e; exact xFields_ok args r hr
  · rename_i e; cases h; subst e; exact (xHasPrefix_ok args r hr).more
  · rename_i e; cases h; subst e; exact (xCopyCheck_ok args r hr).more
  · rename_i e; cases h; subst e; exact (xFormatInt_ok args r hr).more
  · rename_i e; cases h; subst e; exact (xTrimRight_ok args r hr).more
  · rename_i e; cases h; subst e; exact (xCut_ok args r hr).more
  · rename_i e; cases h; subst e; exact (xReplaceAll_ok args r hr).more
  · rename_i e; cases h; subst e; exact (xSplit_ok args r hr).more
def tops : Nat → List PV → List PV
  | 0, l => l
  | n + 1, l => .top :: tops n l
abbrev rbE (x : PV) : PV := .agg [.sc (.int .i64 ((cel 0 x.cells).toInt)), .sc (.int .i64 ((cel 1 x.cells).toInt)), .sc (.int .i64 ((cel 2 x.cells).toInt)), .sc (.int .i64 ((cel 3 x.cells).toInt)), .sc (.string ((cel 4 x.cells).toStr)), .sc (.int .i64 ((cel 5 x.cells).toInt)), .sc (.int .i64 ((cel 6 x.cells).toInt)), .sc (.bool ((cel 7 x.cells).toBool)), .sc (.bool ((cel 8 x.cells).toBool)), .sc (.int .i64 ((cel 9 x.cells).toInt)), .sc (.int .i64 ((cel 10 x.cells).toInt)), .sc (.bool ((cel 11 x.cells).toBool)), .sc (.bool ((cel 12 x.cells).toBool)), .lst 14 ((cel 13 x.cells).len) ((cel 13 x.cells).at)]
end ET
end Go.Den
