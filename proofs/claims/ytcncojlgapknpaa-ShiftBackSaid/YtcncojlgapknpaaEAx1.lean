import Derived.Test.YtcncojlgapknpaaEAh
import Derived.KernelRfl
set_option maxRecDepth 100000
set_option linter.unusedVariables false
namespace Go.Den
open Go Go.Proofs
namespace EA
-- oculus/shift.Move
noncomputable def f7.j0a (k : Nat) (n_ n__1 n__2 n__3 : Int) (n__4 : ByteArray) (n__5 n__6 : Int) (n__7 n__8 : Bool) (n__9 n__10 : Int) (n__11 n__12 : Bool) (nn : Nat) (nf : Nat → PV) (by_ by__1 grid grid_1 c3 c3_1 c3_2 c3_3 : Int) (c3_4 : ByteArray) (c3_5 c3_6 : Int) (c3_7 c3_8 : Bool) (c3_9 c3_10 : Int) (c3_11 c3_12 : Bool) : Option PV := gateK k (placeAt Try.prog 6 ext hint k 7 [1, 1]) ⟨[.top, .top, .top, .ptr 0 0, .ptr 1 0, .ptr 2 0, .ptr 3 0, .top, .top, .top, .top, .top, .top, .top, .top, .top, .top, .top, .top, .top, .top, .top, .top, .top, .top, .top, .top, .top, .top, .top, .top, .top, .top, .top, .top, .top, .top, .top, .top, .top, .top, .top, .top, .top, .top, .top, .top, .top, .top, .top, .top, .top, .top, .top, .top, .top, .top, .top, .top, .top, .top, .top, .top, .top, .top, .top, .top, .top, .top, .top, .top, .top, .top, .top, .top, .top, .top, .top, .top, .top], [.cells [.sc (.int .i64 n_), .sc (.int .i64 n__1), .sc (.int .i64 n__2), .sc (.int .i64 n__3), .sc (.string n__4), .sc (.int .i64 n__5), .sc (.int .i64 n__6), .sc (.bool n__7), .sc (.bool n__8), .sc (.int .i64 n__9), .sc (.int .i64 n__10), .sc (.bool n__11), .sc (.bool n__12), .lst 14 nn nf], .cells [.sc (.int .i64 by_), .sc (.int .i64 by__1)], .cells [.sc (.int .i64 grid), .sc (.int .i64 grid_1)], .cells [.sc (.int .i64 c3), .sc (.int .i64 c3_1), .sc (.int .i64 c3_2), .sc (.int .i64 c3_3), .sc (.string c3_4), .sc (.int .i64 c3_5), .sc (.int .i64 c3_6), .sc (.bool c3_7), .sc (.bool c3_8), .sc (.int .i64 c3_9), .sc (.int .i64 c3_10), .sc (.bool c3_11), .sc (.bool c3_12), .nils]]⟩
noncomputable def f7.l1a (k : Nat) (t63n : Nat) (t63f : Nat → PV) (t64 t65 n_ n__1 n__2 n__3 : Int) (n__4 : ByteArray) (n__5 n__6 : Int) (n__7 n__8 : Bool) (n__9 n__10 : Int) (n__11 n__12 : Bool) (nn : Nat) (nf : Nat → PV) (by_ by__1 grid grid_1 c3 c3_1 c3_2 c3_3 : Int) (c3_4 : ByteArray) (c3_5 c3_6 : Int) (c3_7 c3_8 : Bool) (c3_9 c3_10 : Int) (c3_11 c3_12 : Bool) : Option PV := loopAt Try.prog 6 ext hint k 7 [1, 1, 1, 0, 1, 0] ⟨[.top, .top, .top, .ptr 0 0, .ptr 1 0, .ptr 2 0, .ptr 3 0, .top, .top, .top, .top, .top, .top, .nils, .top, .top, .top, .top, .top, .top, .top, .top, .top, .top, .top, .top, .top, .top, .top, .top, .top, .top, .top, .top, .top, .top, .top, .top, .top, .top, .top, .top, .top, .top, .top, .top, .top, .top, .top, .top, .top, .top, .top, .top, .top, .top, .top, .top, .top, .top, .top, .top, .top, .lst 14 t63n t63f, .sc (.int .i64 t64), .sc (.int .i64 t65), .top, .top, .top, .top, .top, .top, .top, .top, .top, .top, .top, .top, .top, .top], [.cells [.sc (.int .i64 n_), .sc (.int .i64 n__1), .sc (.int .i64 n__2), .sc (.int .i64 n__3), .sc (.string n__4), .sc (.int .i64 n__5), .sc (.int .i64 n__6), .sc (.bool n__7), .sc (.bool n__8), .sc (.int .i64 n__9), .sc (.int .i64 n__10), .sc (.bool n__11), .sc (.bool n__12), .lst 14 nn nf], .cells [.sc (.int .i64 by_), .sc (.int .i64 by__1)], .cells [.sc (.int .i64 grid), .sc (.int .i64 grid_1)], .cells [.sc (.int .i64 c3), .sc (.int .i64 c3_1), .sc (.int .i64 c3_2), .sc (.int .i64 c3_3), .sc (.string c3_4), .sc (.int .i64 c3_5), .sc (.int .i64 c3_6), .sc (.bool c3_7), .sc (.bool c3_8), .sc (.int .i64 c3_9), .sc (.int .i64 c3_10), .sc (.bool c3_11), .sc (.bool c3_12), .nils]]⟩
noncomputable def f7.l1b (k : Nat) (t63n : Nat) (t63f : Nat → PV) (t64 t65 n_ n__1 n__2 n__3 : Int) (n__4 : ByteArray) (n__5 n__6 : Int) (n__7 n__8 : Bool) (n__9 n__10 : Int) (n__11 n__12 : Bool) (nn : Nat) (nf : Nat → PV) (by_ by__1 grid grid_1 c3 c3_1 c3_2 c3_3 : Int) (c3_4 : ByteArray) (c3_5 c3_6 : Int) (c3_7 c3_8 : Bool) (c3_9 c3_10 : Int) (c3_11 c3_12 : Bool) (l : List PV) : Option PV := loopAt Try.prog 6 ext hint k 7 [1, 1, 1, 0, 1, 0] ⟨[.top, .top, .top, .ptr 0 0, .ptr 1 0, .ptr 2 0, .ptr 3 0, .top, .top, .top, .top, .top, .top, .buf 4 0, .top, .top, .top, .top, .top, .top, .top, .top, .top, .top, .top, .top, .top, .top, .top, .top, .top, .top, .top, .top, .top, .top, .top, .top, .top, .top, .top, .top, .top, .top, .top, .top, .top, .top, .top, .top, .top, .top, .top, .top, .top, .top, .top, .top, .top, .top, .top, .top, .top, .lst 14 t63n t63f, .sc (.int .i64 t64), .sc (.int .i64 t65), .top, .top, .top, .top, .top, .top, .top, .top, .top, .top, .top, .top, .top, .top], [.cells [.sc (.int .i64 n_), .sc (.int .i64 n__1), .sc (.int .i64 n__2), .sc (.int .i64 n__3), .sc (.string n__4), .sc (.int .i64 n__5), .sc (.int .i64 n__6), .sc (.bool n__7), .sc (.bool n__8), .sc (.int .i64 n__9), .sc (.int .i64 n__10), .sc (.bool n__11), .sc (.bool n__12), .lst 14 nn nf], .cells [.sc (.int .i64 by_), .sc (.int .i64 by__1)], .cells [.sc (.int .i64 grid), .sc (.int .i64 grid_1)], .cells [.sc (.int .i64 c3), .sc (.int .i64 c3_1), .sc (.int .i64 c3_2), .sc (.int .i64 c3_3), .sc (.string c3_4), .sc (.int .i64 c3_5), .sc (.int .i64 c3_6), .sc (.bool c3_7), .sc (.bool c3_8), .sc (.int .i64 c3_9), .sc (.int .i64 c3_10), .sc (.bool c3_11), .sc (.bool c3_12), .nils], .buf 28 0 l]⟩
theorem f7_eq (k : Nat) (n_ n__1 n__2 n__3 : Int) (n__4 : ByteArray) (n__5 n__6 : Int) (n__7 n__8 : Bool) (n__9 n__10 : Int) (n__11 n__12 : Bool) (nn : Nat) (nf : Nat → PV) (by_ by__1 grid grid_1 : Int) : D 7 [.agg [.sc (.int .i64 n_), .sc (.int .i64 n__1), .sc (.int .i64 n__2), .sc (.int .i64 n__3), .sc (.string n__4), .sc (.int .i64 n__5), .sc (.int .i64 n__6), .sc (.bool n__7), .sc (.bool n__8), .sc (.int .i64 n__9), .sc (.int .i64 n__10), .sc (.bool n__11), .sc (.bool n__12), .lst 14 nn nf], .agg [.sc (.int .i64 by_), .sc (.int .i64 by__1)], .agg [.sc (.int .i64 grid), .sc (.int .i64 grid_1)]] =
  if (n_ == 3) = true then
    (D 14 [.agg [.sc (.int .i64 n__5), .sc (.int .i64 n__6), .sc (.bool n__7), .sc (.bool n__8)], .agg [.sc (.int .i64 by_), .sc (.int .i64 by__1)], .agg [.sc (.int .i64 grid), .sc (.int .i64 grid_1)]]).bind fun r1 => if hasSh (.tup [(.agg [(.int .i64), (.int .i64), .bool, .bool]), .bool]) r1 = true then
    if (!((cel 1 r1.parts).toBool)) = true then
      some (.agg [.sc (.int .i64 2), .sc (.int .i64 0), .sc (.int .i64 0), .sc (.int .i64 0), .sc (.string (⟨#[]⟩ : ByteArray)), .sc (.int .i64 0), .sc (.int .i64 0), .sc (.bool false), .sc (.bool false), .sc (.int .i64 0), .sc (.int .i64 0), .sc (.bool false), .sc (.bool false), .nils])
    else
      f7.j0a k n_ n__1 n__2 n__3 n__4 ((cel 0 (cel 0 r1.parts).cells).toInt) ((cel 1 (cel 0 r1.parts).cells).toInt) ((cel 2 (cel 0 r1.parts).cells).toBool) ((cel 3 (cel 0 r1.parts).cells).toBool) n__9 n__10 n__11 n__12 nn nf by_ by__1 grid grid_1 0 0 0 0 (⟨#[]⟩ : ByteArray) 0 0 false false 0 0 false false
    else none
  else
    if (n_ == 4) = true then
      (D 14 [.agg [.sc (.int .i64 n__5), .sc (.int .i64 n__6), .sc (.bool n__7), .sc (.bool n__8)], .agg [.sc (.int .i64 by_), .sc (.int .i64 by__1)], .agg [.sc (.int .i64 grid), .sc (.int .i64 grid_1)]]).bind fun r2 => if hasSh (.tup [(.agg [(.int .i64), (.int .i64), .bool, .bool]), .bool]) r2 = true then
      (D 14 [.agg [.sc (.int .i64 n__9), .sc (.int .i64 n__10), .sc (.bool n__11), .sc (.bool n__12)], .agg [.sc (.int .i64 by_), .sc (.int .i64 by__1)], .agg [.sc (.int .i64 grid), .sc (.int .i64 grid_1)]]).bind fun r3 => if hasSh (.tup [(.agg [(.int .i64), (.int .i64), .bool, .bool]), .bool]) r3 = true then
      Option.bind (α := PV) (
        if (!((cel 1 r2.parts).toBool)) = true then
          some (.sc (.bool true))
        else
          some (.sc (.bool (!((cel 1 r3.parts).toBool))))) fun r4 =>
      if r4.toBool = true then
        some (.agg [.sc (.int .i64 2), .sc (.int .i64 0), .sc (.int .i64 0), .sc (.int .i64 0), .sc (.string (⟨#[]⟩ : ByteArray)), .sc (.int .i64 0), .sc (.int .i64 0), .sc (.bool false), .sc (.bool false), .sc (.int .i64 0), .sc (.int .i64 0), .sc (.bool false), .sc (.bool false), .nils])
      else
        f7.j0a k n_ n__1 n__2 n__3 n__4 ((cel 0 (cel 0 r2.parts).cells).toInt) ((cel 1 (cel 0 r2.parts).cells).toInt) ((cel 2 (cel 0 r2.parts).cells).toBool) ((cel 3 (cel 0 r2.parts).cells).toBool) ((cel 0 (cel 0 r3.parts).cells).toInt) ((cel 1 (cel 0 r3.parts).cells).toInt) ((cel 2 (cel 0 r3.parts).cells).toBool) ((cel 3 (cel 0 r3.parts).cells).toBool) nn nf by_ by__1 grid grid_1 0 0 0 0 (⟨#[]⟩ : ByteArray) 0 0 false false 0 0 false false
      else none
      else none
    else
      f7.j0a k n_ n__1 n__2 n__3 n__4 n__5 n__6 n__7 n__8 n__9 n__10 n__11 n__12 nn nf by_ by__1 grid grid_1 0 0 0 0 (⟨#[]⟩ : ByteArray) 0 0 false false 0 0 false false :=
  (denI_eq k _ _).trans (by kernel_rfl)
theorem f7.j0a_eq (k : Nat) (n_ n__1 n__2 n__3 : Int) (n__4 : ByteArray) (n__5 n__6 : Int) (n__7 n__8 : Bool) (n__9 n__10 : Int) (n__11 n__12 : Bool) (nn : Nat) (nf : Nat → PV) (by_ by__1 grid grid_1 c3 c3_1 c3_2 c3_3 : Int) (c3_4 : ByteArray) (c3_5 c3_6 : Int) (c3_7 c3_8 : Bool) (c3_9 c3_10 : Int) (c3_11 c3_12 : Bool) : f7.j0a k n_ n__1 n__2 n__3 n__4 n__5 n__6 n__7 n__8 n__9 n__10 n__11 n__12 nn nf by_ by__1 grid grid_1 c3 c3_1 c3_2 c3_3 c3_4 c3_5 c3_6 c3_7 c3_8 c3_9 c3_10 c3_11 c3_12 =
  f7.l1a k nn nf (nn : Int) 0 n_ n__1 n__2 n__3 n__4 n__5 n__6 n__7 n__8 n__9 n__10 n__11 n__12 nn nf by_ by__1 grid grid_1 c3 c3_1 c3_2 c3_3 c3_4 c3_5 c3_6 c3_7 c3_8 c3_9 c3_10 c3_11 c3_12 :=
  (gateK_open _ _ _).trans (by kernel_rfl)
theorem f7.l1a_eq (k : Nat) (t63n : Nat) (t63f : Nat → PV) (t64 t65 n_ n__1 n__2 n__3 : Int) (n__4 : ByteArray) (n__5 n__6 : Int) (n__7 n__8 : Bool) (n__9 n__10 : Int) (n__11 n__12 : Bool) (nn : Nat) (nf : Nat → PV) (by_ by__1 grid grid_1 c3 c3_1 c3_2 c3_3 : Int) (c3_4 : ByteArray) (c3_5 c3_6 : Int) (c3_7 c3_8 : Bool) (c3_9 c3_10 : Int) (c3_11 c3_12 : Bool) : f7.l1a k t63n t63f t64 t65 n_ n__1 n__2 n__3 n__4 n__5 n__6 n__7 n__8 n__9 n__10 n__11 n__12 nn nf by_ by__1 grid grid_1 c3 c3_1 c3_2 c3_3 c3_4 c3_5 c3_6 c3_7 c3_8 c3_9 c3_10 c3_11 c3_12 =
  if decide (t65 < t64) = true then
    if 0 ≤ t65 then
      if t65 < (t63n : Int) then
        if hasSh (.agg [(.int .i64), (.int .i64), (.int .i64), (.int .i64), .str, (.int .i64), (.int .i64), .bool, .bool, (.int .i64), (.int .i64), .bool, .bool, (.lst 14)]) (t63f t65.toNat) = true then
          (D 7 [.agg [.sc (.int .i64 ((cel 0 (t63f t65.toNat).cells).toInt)), .sc (.int .i64 ((cel 1 (t63f t65.toNat).cells).toInt)), .sc (.int .i64 ((cel 2 (t63f t65.toNat).cells).toInt)), .sc (.int .i64 ((cel 3 (t63f t65.toNat).cells).toInt)), .sc (.string ((cel 4 (t63f t65.toNat).cells).toStr)), .sc (.int .i64 ((cel 5 (t63f t65.toNat).cells).toInt)), .sc (.int .i64 ((cel 6 (t63f t65.toNat).cells).toInt)), .sc (.bool ((cel 7 (t63f t65.toNat).cells).toBool)), .sc (.bool ((cel 8 (t63f t65.toNat).cells).toBool)), .sc (.int .i64 ((cel 9 (t63f t65.toNat).cells).toInt)), .sc (.int .i64 ((cel 10 (t63f t65.toNat).cells).toInt)), .sc (.bool ((cel 11 (t63f t65.toNat).cells).toBool)), .sc (.bool ((cel 12 (t63f t65.toNat).cells).toBool)), .lst 14 ((cel 13 (t63f t65.toNat).cells).len) ((cel 13 (t63f t65.toNat).cells).at)], .agg [.sc (.int .i64 by_), .sc (.int .i64 by__1)], .agg [.sc (.int .i64 grid), .sc (.int .i64 grid_1)]]).bind fun r5 => if hasSh (.agg [(.int .i64), (.int .i64), (.int .i64), (.int .i64), .str, (.int .i64), (.int .i64), .bool, .bool, (.int .i64), (.int .i64), .bool, .bool, (.lst 14)]) r5 = true then
          if ([.agg [.sc (.int .i64 ((cel 0 r5.cells).toInt)), .sc (.int .i64 ((cel 1 r5.cells).toInt)), .sc (.int .i64 ((cel 2 r5.cells).toInt)), .sc (.int .i64 ((cel 3 r5.cells).toInt)), .sc (.string ((cel 4 r5.cells).toStr)), .sc (.int .i64 ((cel 5 r5.cells).toInt)), .sc (.int .i64 ((cel 6 r5.cells).toInt)), .sc (.bool ((cel 7 r5.cells).toBool)), .sc (.bool ((cel 8 r5.cells).toBool)), .sc (.int .i64 ((cel 9 r5.cells).toInt)), .sc (.int .i64 ((cel 10 r5.cells).toInt)), .sc (.bool ((cel 11 r5.cells).toBool)), .sc (.bool ((cel 12 r5.cells).toBool)), .lst 14 ((cel 13 r5.cells).len) ((cel 13 r5.cells).at)]] : List PV).length * 120 ≤ 140737488355328 ∧ ([.agg [.sc (.int .i64 ((cel 0 r5.cells).toInt)), .sc (.int .i64 ((cel 1 r5.cells).toInt)), .sc (.int .i64 ((cel 2 r5.cells).toInt)), .sc (.int .i64 ((cel 3 r5.cells).toInt)), .sc (.string ((cel 4 r5.cells).toStr)), .sc (.int .i64 ((cel 5 r5.cells).toInt)), .sc (.int .i64 ((cel 6 r5.cells).toInt)), .sc (.bool ((cel 7 r5.cells).toBool)), .sc (.bool ((cel 8 r5.cells).toBool)), .sc (.int .i64 ((cel 9 r5.cells).toInt)), .sc (.int .i64 ((cel 10 r5.cells).toInt)), .sc (.bool ((cel 11 r5.cells).toBool)), .sc (.bool ((cel 12 r5.cells).toBool)), .lst 14 ((cel 13 r5.cells).len) ((cel 13 r5.cells).at)]] : List PV).length ≤ 140737488355328 then
            f7.l1b k t63n t63f t64 (IntKind.i64.wrap (t65 + 1)) n_ n__1 n__2 n__3 n__4 n__5 n__6 n__7 n__8 n__9 n__10 n__11 n__12 nn nf by_ by__1 grid grid_1 c3 c3_1 c3_2 c3_3 c3_4 c3_5 c3_6 c3_7 c3_8 c3_9 c3_10 c3_11 c3_12 ([.agg [.sc (.int .i64 ((cel 0 r5.cells).toInt)), .sc (.int .i64 ((cel 1 r5.cells).toInt)), .sc (.int .i64 ((cel 2 r5.cells).toInt)), .sc (.int .i64 ((cel 3 r5.cells).toInt)), .sc (.string ((cel 4 r5.cells).toStr)), .sc (.int .i64 ((cel 5 r5.cells).toInt)), .sc (.int .i64 ((cel 6 r5.cells).toInt)), .sc (.bool ((cel 7 r5.cells).toBool)), .sc (.bool ((cel 8 r5.cells).toBool)), .sc (.int .i64 ((cel 9 r5.cells).toInt)), .sc (.int .i64 ((cel 10 r5.cells).toInt)), .sc (.bool ((cel 11 r5.cells).toBool)), .sc (.bool ((cel 12 r5.cells).toBool)), .lst 14 ((cel 13 r5.cells).len) ((cel 13 r5.cells).at)]] : List PV)
          else none
          else none
        else none
      else none
    else none
  else
    some (.agg [.sc (.int .i64 n_), .sc (.int .i64 n__1), .sc (.int .i64 n__2), .sc (.int .i64 n__3), .sc (.string n__4), .sc (.int .i64 n__5), .sc (.int .i64 n__6), .sc (.bool n__7), .sc (.bool n__8), .sc (.int .i64 n__9), .sc (.int .i64 n__10), .sc (.bool n__11), .sc (.bool n__12), .nils]) :=
  (loopAt_eq _ _ _ _).trans (by kernel_rfl)
theorem f7.l1b_eq (k : Nat) (t63n : Nat) (t63f : Nat → PV) (t64 t65 n_ n__1 n__2 n__3 : Int) (n__4 : ByteArray) (n__5 n__6 : Int) (n__7 n__8 : Bool) (n__9 n__10 : Int) (n__11 n__12 : Bool) (nn : Nat) (nf : Nat → PV) (by_ by__1 grid grid_1 c3 c3_1 c3_2 c3_3 : Int) (c3_4 : ByteArray) (c3_5 c3_6 : Int) (c3_7 c3_8 : Bool) (c3_9 c3_10 : Int) (c3_11 c3_12 : Bool) (l : List PV) : f7.l1b k t63n t63f t64 t65 n_ n__1 n__2 n__3 n__4 n__5 n__6 n__7 n__8 n__9 n__10 n__11 n__12 nn nf by_ by__1 grid grid_1 c3 c3_1 c3_2 c3_3 c3_4 c3_5 c3_6 c3_7 c3_8 c3_9 c3_10 c3_11 c3_12 l =
  if decide (t65 < t64) = true then
    if 0 ≤ t65 then
      if t65 < (t63n : Int) then
        if hasSh (.agg [(.int .i64), (.int .i64), (.int .i64), (.int .i64), .str, (.int .i64), (.int .i64), .bool, .bool, (.int .i64), (.int .i64), .bool, .bool, (.lst 14)]) (t63f t65.toNat) = true then
          (D 7 [.agg [.sc (.int .i64 ((cel 0 (t63f t65.toNat).cells).toInt)), .sc (.int .i64 ((cel 1 (t63f t65.toNat).cells).toInt)), .sc (.int .i64 ((cel 2 (t63f t65.toNat).cells).toInt)), .sc (.int .i64 ((cel 3 (t63f t65.toNat).cells).toInt)), .sc (.string ((cel 4 (t63f t65.toNat).cells).toStr)), .sc (.int .i64 ((cel 5 (t63f t65.toNat).cells).toInt)), .sc (.int .i64 ((cel 6 (t63f t65.toNat).cells).toInt)), .sc (.bool ((cel 7 (t63f t65.toNat).cells).toBool)), .sc (.bool ((cel 8 (t63f t65.toNat).cells).toBool)), .sc (.int .i64 ((cel 9 (t63f t65.toNat).cells).toInt)), .sc (.int .i64 ((cel 10 (t63f t65.toNat).cells).toInt)), .sc (.bool ((cel 11 (t63f t65.toNat).cells).toBool)), .sc (.bool ((cel 12 (t63f t65.toNat).cells).toBool)), .lst 14 ((cel 13 (t63f t65.toNat).cells).len) ((cel 13 (t63f t65.toNat).cells).at)], .agg [.sc (.int .i64 by_), .sc (.int .i64 by__1)], .agg [.sc (.int .i64 grid), .sc (.int .i64 grid_1)]]).bind fun r6 => if hasSh (.agg [(.int .i64), (.int .i64), (.int .i64), (.int .i64), .str, (.int .i64), (.int .i64), .bool, .bool, (.int .i64), (.int .i64), .bool, .bool, (.lst 14)]) r6 = true then
          if (l.length + ([.agg [.sc (.int .i64 ((cel 0 r6.cells).toInt)), .sc (.int .i64 ((cel 1 r6.cells).toInt)), .sc (.int .i64 ((cel 2 r6.cells).toInt)), .sc (.int .i64 ((cel 3 r6.cells).toInt)), .sc (.string ((cel 4 r6.cells).toStr)), .sc (.int .i64 ((cel 5 r6.cells).toInt)), .sc (.int .i64 ((cel 6 r6.cells).toInt)), .sc (.bool ((cel 7 r6.cells).toBool)), .sc (.bool ((cel 8 r6.cells).toBool)), .sc (.int .i64 ((cel 9 r6.cells).toInt)), .sc (.int .i64 ((cel 10 r6.cells).toInt)), .sc (.bool ((cel 11 r6.cells).toBool)), .sc (.bool ((cel 12 r6.cells).toBool)), .lst 14 ((cel 13 r6.cells).len) ((cel 13 r6.cells).at)]] : List PV).length) * 120 ≤ 140737488355328 ∧ l.length + ([.agg [.sc (.int .i64 ((cel 0 r6.cells).toInt)), .sc (.int .i64 ((cel 1 r6.cells).toInt)), .sc (.int .i64 ((cel 2 r6.cells).toInt)), .sc (.int .i64 ((cel 3 r6.cells).toInt)), .sc (.string ((cel 4 r6.cells).toStr)), .sc (.int .i64 ((cel 5 r6.cells).toInt)), .sc (.int .i64 ((cel 6 r6.cells).toInt)), .sc (.bool ((cel 7 r6.cells).toBool)), .sc (.bool ((cel 8 r6.cells).toBool)), .sc (.int .i64 ((cel 9 r6.cells).toInt)), .sc (.int .i64 ((cel 10 r6.cells).toInt)), .sc (.bool ((cel 11 r6.cells).toBool)), .sc (.bool ((cel 12 r6.cells).toBool)), .lst 14 ((cel 13 r6.cells).len) ((cel 13 r6.cells).at)]] : List PV).length ≤ 140737488355328 then
            f7.l1b k t63n t63f t64 (IntKind.i64.wrap (t65 + 1)) n_ n__1 n__2 n__3 n__4 n__5 n__6 n__7 n__8 n__9 n__10 n__11 n__12 nn nf by_ by__1 grid grid_1 c3 c3_1 c3_2 c3_3 c3_4 c3_5 c3_6 c3_7 c3_8 c3_9 c3_10 c3_11 c3_12 (l ++ ([.agg [.sc (.int .i64 ((cel 0 r6.cells).toInt)), .sc (.int .i64 ((cel 1 r6.cells).toInt)), .sc (.int .i64 ((cel 2 r6.cells).toInt)), .sc (.int .i64 ((cel 3 r6.cells).toInt)), .sc (.string ((cel 4 r6.cells).toStr)), .sc (.int .i64 ((cel 5 r6.cells).toInt)), .sc (.int .i64 ((cel 6 r6.cells).toInt)), .sc (.bool ((cel 7 r6.cells).toBool)), .sc (.bool ((cel 8 r6.cells).toBool)), .sc (.int .i64 ((cel 9 r6.cells).toInt)), .sc (.int .i64 ((cel 10 r6.cells).toInt)), .sc (.bool ((cel 11 r6.cells).toBool)), .sc (.bool ((cel 12 r6.cells).toBool)), .lst 14 ((cel 13 r6.cells).len) ((cel 13 r6.cells).at)]] : List PV))
          else none
          else none
        else none
      else none
    else none
  else
    some (.agg [.sc (.int .i64 n_), .sc (.int .i64 n__1), .sc (.int .i64 n__2), .sc (.int .i64 n__3), .sc (.string n__4), .sc (.int .i64 n__5), .sc (.int .i64 n__6), .sc (.bool n__7), .sc (.bool n__8), .sc (.int .i64 n__9), .sc (.int .i64 n__10), .sc (.bool n__11), .sc (.bool n__12), frozen 14 l]) :=
  (loopAt_eq _ _ _ _).trans (by kernel_rfl)
-- oculus/shift.Ref
noncomputable def f14.j0a (k : Nat) (r r_1 : Int) (r_2 r_3 : Bool) (by_ by__1 c2 c2_1 : Int) (c2_2 c2_3 : Bool) (last last_1 : Int) : Option PV := gateK k (placeAt Try.prog 6 ext hint k 14 [1, 1, 1, 1, 1]) ⟨[.top, .top, .top, .ptr 0 0, .ptr 1 0, .top, .ptr 2 0, .top, .ptr 3 0, .top, .top, .top, .top, .top, .top, .top, .top, .top, .top, .top, .top, .top, .top, .top, .top, .top, .top, .top, .top, .top, .top, .top, .top, .top, .top, .top, .top, .top, .top, .top, .top, .top, .top, .top, .top, .top, .top, .top, .top, .top, .top, .top, .top, .top, .top, .top, .top, .top, .top, .top, .top, .top, .top, .top, .top, .top, .top, .top, .top, .top, .top, .top, .top, .top, .top, .top, .top, .top, .top, .top, .top, .top, .top, .top, .top, .top, .top, .top, .top, .top], [.cells [.sc (.int .i64 r), .sc (.int .i64 r_1), .sc (.bool r_2), .sc (.bool r_3)], .cells [.sc (.int .i64 by_), .sc (.int .i64 by__1)], .cells [.sc (.int .i64 c2), .sc (.int .i64 c2_1), .sc (.bool c2_2), .sc (.bool c2_3)], .cells [.sc (.int .i64 last), .sc (.int .i64 last_1)]]⟩
noncomputable def f14.j1a (k : Nat) (r r_1 : Int) (r_2 r_3 : Bool) (c1 c1_1 : Int) (c1_2 c1_3 : Bool) (last last_1 : Int) : Option PV := gateK k (placeAt Try.prog 6 ext hint k 14 [1, 1, 1, 1, 1, 1]) ⟨[.top, .top, .top, .ptr 0 0, .top, .top, .ptr 1 0, .top, .ptr 2 0, .top, .top, .top, .top, .top, .top, .top, .top, .top, .top, .top, .top, .top, .top, .top, .top, .top, .top, .top, .top, .top, .top, .top, .top, .top, .top, .top, .top, .top, .top, .top, .top, .top, .top, .top, .top, .top, .top, .top, .top, .top, .top, .top, .top, .top, .top, .top, .top, .top, .top, .top, .top, .top, .top, .top, .top, .top, .top, .top, .top, .top, .top, .top, .top, .top, .top, .top, .top, .top, .top, .top, .top, .top, .top, .top, .top, .top, .top, .top, .top, .top], [.cells [.sc (.int .i64 r), .sc (.int .i64 r_1), .sc (.bool r_2), .sc (.bool r_3)], .cells [.sc (.int .i64 c1), .sc (.int .i64 c1_1), .sc (.bool c1_2), .sc (.bool c1_3)], .cells [.sc (.int .i64 last), .sc (.int .i64 last_1)]]⟩
theorem f14_eq (k : Nat) (r r_1 : Int) (r_2 r_3 : Bool) (by_ by__1 grid grid_1 : Int) : D 14 [.agg [.sc (.int .i64 r), .sc (.int .i64 r_1), .sc (.bool r_2), .sc (.bool r_3)], .agg [.sc (.int .i64 by_), .sc (.int .i64 by__1)], .agg [.sc (.int .i64 grid), .sc (.int .i64 grid_1)]] =
  (D 18 [.agg [.sc (.int .i64 (IntKind.i64.wrap (grid - 1))), .sc (.int .i64 (IntKind.i64.wrap (grid_1 - 1)))]]).bind fun r1 => if hasSh .bool r1 = true then
  Option.bind (α := PV) (
    if (!r1.toBool) = true then
      some (.sc (.bool true))
    else
      some (.sc (.bool (decide (by_ < (-1000)))))) fun r2 =>
  Option.bind (α := PV) (
    if r2.toBool = true then
      some (.sc (.bool true))
    else
      some (.sc (.bool (decide (by_ > 1000))))) fun r3 =>
  Option.bind (α := PV) (
    if r3.toBool = true then
      some (.sc (.bool true))
    else
      some (.sc (.bool (decide (by__1 < (-1000)))))) fun r4 =>
  Option.bind (α := PV) (
    if r4.toBool = true then
      some (.sc (.bool true))
    else
      some (.sc (.bool (decide (by__1 > 1000))))) fun r5 =>
  if r5.toBool = true then
    some (.tup [.agg [.sc (.int .i64 0), .sc (.int .i64 0), .sc (.bool false), .sc (.bool false)], .sc (.bool false)])
  else
    (D 18 [.agg [.sc (.int .i64 r), .sc (.int .i64 r_1)]]).bind fun r6 => if hasSh .bool r6 = true then
    if (!r6.toBool) = true then
      some (.tup [.agg [.sc (.int .i64 0), .sc (.int .i64 0), .sc (.bool false), .sc (.bool false)], .sc (.bool false)])
    else
      if (!r_2) = true then
        f14.j0a k (IntKind.i64.wrap (r + by_)) r_1 r_2 r_3 by_ by__1 0 0 false false (IntKind.i64.wrap (grid - 1)) (IntKind.i64.wrap (grid_1 - 1))
      else
        f14.j0a k r r_1 r_2 r_3 by_ by__1 0 0 false false (IntKind.i64.wrap (grid - 1)) (IntKind.i64.wrap (grid_1 - 1))
    else none
  else none :=
  (denI_eq k _ _).trans (by kernel_rfl)
theorem f14.j0a_eq (k : Nat) (r r_1 : Int) (r_2 r_3 : Bool) (by_ by__1 c2 c2_1 : Int) (c2_2 c2_3 : Bool) (last last_1 : Int) : f14.j0a k r r_1 r_2 r_3 by_ by__1 c2 c2_1 c2_2 c2_3 last last_1 =
  if (!r_3) = true then
    f14.j1a k r (IntKind.i64.wrap (r_1 + by__1)) r_2 r_3 c2 c2_1 c2_2 c2_3 last last_1
  else
    f14.j1a k r r_1 r_2 r_3 c2 c2_1 c2_2 c2_3 last last_1 :=
  (gateK_open _ _ _).trans (by kernel_rfl)
theorem f14.j1a_eq (k : Nat) (r r_1 : Int) (r_2 r_3 : Bool) (c1 c1_1 : Int) (c1_2 c1_3 : Bool) (last last_1 : Int) : f14.j1a k r r_1 r_2 r_3 c1 c1_1 c1_2 c1_3 last last_1 =
  Option.bind (α := PV) (
    if decide (r < 0) = true then
      some (.sc (.bool true))
    else
      some (.sc (.bool (decide (r > last))))) fun r7 =>
  Option.bind (α := PV) (
    if r7.toBool = true then
      some (.sc (.bool true))
    else
      some (.sc (.bool (decide (r_1 < 0))))) fun r8 =>
  Option.bind (α := PV) (
    if r8.toBool = true then
      some (.sc (.bool true))
    else
      some (.sc (.bool (decide (r_1 > last_1))))) fun r9 =>
  if r9.toBool = true then
    some (.tup [.agg [.sc (.int .i64 0), .sc (.int .i64 0), .sc (.bool false), .sc (.bool false)], .sc (.bool false)])
  else
    some (.tup [.agg [.sc (.int .i64 r), .sc (.int .i64 r_1), .sc (.bool r_2), .sc (.bool r_3)], .sc (.bool true)]) :=
  (gateK_open _ _ _).trans (by kernel_rfl)
-- oculus/addr.May
theorem f18_eq (k : Nat) (c c_1 : Int) : D 18 [.agg [.sc (.int .i64 c), .sc (.int .i64 c_1)]] =
  Option.bind (α := PV) (
    if decide (c ≥ 0) = true then
      some (.sc (.bool (decide (c < 999))))
    else
      some (.sc (.bool false))) fun r1 =>
  Option.bind (α := PV) (
    if r1.toBool = true then
      some (.sc (.bool (decide (c_1 ≥ 0))))
    else
      some (.sc (.bool false))) fun r2 =>
  Option.bind (α := PV) (
    if r2.toBool = true then
      some (.sc (.bool (decide (c_1 < 702))))
    else
      some (.sc (.bool false))) fun r3 =>
  some (.sc (.bool r3.toBool)) :=
  (denI_eq k _ _).trans (by kernel_rfl)
-- oculus/oculusref22.Right
noncomputable def f8.l0a (k : Nat) (ln : Nat) (lf : Nat → PV) (i : Int) : Option PV := loopAt Try.prog 6 ext hint k 8 [1, 1, 0, 1, 0] ⟨[.top, .top, .top, .lst 14 ln lf, .sc (.int .i64 i), .top, .top, .top, .top, .top, .top, .top, .top, .top, .top, .top, .top, .top, .top], []⟩
theorem f8_eq (k : Nat) (n_ n__1 n__2 n__3 : Int) (n__4 : ByteArray) (n__5 n__6 : Int) (n__7 n__8 : Bool) (n__9 n__10 : Int) (n__11 n__12 : Bool) (nn : Nat) (nf : Nat → PV) : D 8 [.agg [.sc (.int .i64 n_), .sc (.int .i64 n__1), .sc (.int .i64 n__2), .sc (.int .i64 n__3), .sc (.string n__4), .sc (.int .i64 n__5), .sc (.int .i64 n__6), .sc (.bool n__7), .sc (.bool n__8), .sc (.int .i64 n__9), .sc (.int .i64 n__10), .sc (.bool n__11), .sc (.bool n__12), .lst 14 nn nf]] =
  (D 10 [.agg [.sc (.int .i64 n_), .sc (.int .i64 n__1), .sc (.int .i64 n__2), .sc (.int .i64 n__3), .sc (.string n__4), .sc (.int .i64 n__5), .sc (.int .i64 n__6), .sc (.bool n__7), .sc (.bool n__8), .sc (.int .i64 n__9), .sc (.int .i64 n__10), .sc (.bool n__11), .sc (.bool n__12), .lst 14 nn nf]]).bind fun r1 => if hasSh (.lst 14) r1 = true then
  f8.l0a k r1.len r1.at 0
  else none :=
  (denI_eq k _ _).trans (by kernel_rfl)
theorem f8.l0a_eq (k : Nat) (ln : Nat) (lf : Nat → PV) (i : Int) : f8.l0a k ln lf i =
  if decide (i < (ln : Int)) = true then
    if 0 ≤ i then
      if i < (ln : Int) then
        if hasSh (.agg [(.int .i64), (.int .i64), (.int .i64), (.int .i64), .str, (.int .i64), (.int .i64), .bool, .bool, (.int .i64), (.int .i64), .bool, .bool, (.lst 14)]) (lf i.toNat) = true then
          (D 15 [.agg [.sc (.int .i64 ((cel 0 (lf i.toNat).cells).toInt)), .sc (.int .i64 ((cel 1 (lf i.toNat).cells).toInt)), .sc (.int .i64 ((cel 2 (lf i.toNat).cells).toInt)), .sc (.int .i64 ((cel 3 (lf i.toNat).cells).toInt)), .sc (.string ((cel 4 (lf i.toNat).cells).toStr)), .sc (.int .i64 ((cel 5 (lf i.toNat).cells).toInt)), .sc (.int .i64 ((cel 6 (lf i.toNat).cells).toInt)), .sc (.bool ((cel 7 (lf i.toNat).cells).toBool)), .sc (.bool ((cel 8 (lf i.toNat).cells).toBool)), .sc (.int .i64 ((cel 9 (lf i.toNat).cells).toInt)), .sc (.int .i64 ((cel 10 (lf i.toNat).cells).toInt)), .sc (.bool ((cel 11 (lf i.toNat).cells).toBool)), .sc (.bool ((cel 12 (lf i.toNat).cells).toBool)), .lst 14 ((cel 13 (lf i.toNat).cells).len) ((cel 13 (lf i.toNat).cells).at)]]).bind fun r2 => if hasSh .bool r2 = true then
          if (!r2.toBool) = true then
            some (.sc (.bool false))
          else
            f8.l0a k ln lf (IntKind.i64.wrap (i + 1))
          else none
        else none
      else none
    else none
  else
    some (.sc (.bool true)) :=
  (loopAt_eq _ _ _ _).trans (by kernel_rfl)
-- oculus/oculusref22.List
noncomputable def f10.l0a (k : Nat) (i n_ n__1 n__2 n__3 : Int) (n__4 : ByteArray) (n__5 n__6 : Int) (n__7 n__8 : Bool) (n__9 n__10 : Int) (n__11 n__12 : Bool) (nn : Nat) (nf : Nat → PV) (out : List PV) : Option PV := loopAt Try.prog 6 ext hint k 10 [1, 1, 1, 0, 1, 0] ⟨[.top, .ptr 0 0, .top, .buf 1 0, .sc (.int .i64 i), .top, .top, .top, .top, .top, .top, .top, .top, .top, .top, .top, .top, .top, .top, .top, .top, .top, .top, .top, .top], [.cells [.sc (.int .i64 n_), .sc (.int .i64 n__1), .sc (.int .i64 n__2), .sc (.int .i64 n__3), .sc (.string n__4), .sc (.int .i64 n__5), .sc (.int .i64 n__6), .sc (.bool n__7), .sc (.bool n__8), .sc (.int .i64 n__9), .sc (.int .i64 n__10), .sc (.bool n__11), .sc (.bool n__12), .lst 14 nn nf], .buf 28 0 out]⟩
theorem f10_eq (k : Nat) (n_ n__1 n__2 n__3 : Int) (n__4 : ByteArray) (n__5 n__6 : Int) (n__7 n__8 : Bool) (n__9 n__10 : Int) (n__11 n__12 : Bool) (nn : Nat) (nf : Nat → PV) : D 10 [.agg [.sc (.int .i64 n_), .sc (.int .i64 n__1), .sc (.int .i64 n__2), .sc (.int .i64 n__3), .sc (.string n__4), .sc (.int .i64 n__5), .sc (.int .i64 n__6), .sc (.bool n__7), .sc (.bool n__8), .sc (.int .i64 n__9), .sc (.int .i64 n__10), .sc (.bool n__11), .sc (.bool n__12), .lst 14 nn nf]] =
  if ([.agg [.sc (.int .i64 n_), .sc (.int .i64 n__1), .sc (.int .i64 n__2), .sc (.int .i64 n__3), .sc (.string n__4), .sc (.int .i64 n__5), .sc (.int .i64 n__6), .sc (.bool n__7), .sc (.bool n__8), .sc (.int .i64 n__9), .sc (.int .i64 n__10), .sc (.bool n__11), .sc (.bool n__12), .lst 14 nn nf]] : List PV).length * 120 ≤ 140737488355328 ∧ ([.agg [.sc (.int .i64 n_), .sc (.int .i64 n__1), .sc (.int .i64 n__2), .sc (.int .i64 n__3), .sc (.string n__4), .sc (.int .i64 n__5), .sc (.int .i64 n__6), .sc (.bool n__7), .sc (.bool n__8), .sc (.int .i64 n__9), .sc (.int .i64 n__10), .sc (.bool n__11), .sc (.bool n__12), .lst 14 nn nf]] : List PV).length ≤ 140737488355328 then
    f10.l0a k 0 n_ n__1 n__2 n__3 n__4 n__5 n__6 n__7 n__8 n__9 n__10 n__11 n__12 nn nf ([.agg [.sc (.int .i64 n_), .sc (.int .i64 n__1), .sc (.int .i64 n__2), .sc (.int .i64 n__3), .sc (.string n__4), .sc (.int .i64 n__5), .sc (.int .i64 n__6), .sc (.bool n__7), .sc (.bool n__8), .sc (.int .i64 n__9), .sc (.int .i64 n__10), .sc (.bool n__11), .sc (.bool n__12), .lst 14 nn nf]] : List PV)
  else none :=
  (denI_eq k _ _).trans (by kernel_rfl)
theorem f10.l0a_eq (k : Nat) (i n_ n__1 n__2 n__3 : Int) (n__4 : ByteArray) (n__5 n__6 : Int) (n__7 n__8 : Bool) (n__9 n__10 : Int) (n__11 n__12 : Bool) (nn : Nat) (nf : Nat → PV) (out : List PV) : f10.l0a k i n_ n__1 n__2 n__3 n__4 n__5 n__6 n__7 n__8 n__9 n__10 n__11 n__12 nn nf out =
  if decide (i < (nn : Int)) = true then
    if 0 ≤ i then
      if i < (nn : Int) then
        if hasSh (.agg [(.int .i64), (.int .i64), (.int .i64), (.int .i64), .str, (.int .i64), (.int .i64), .bool, .bool, (.int .i64), (.int .i64), .bool, .bool, (.lst 14)]) (nf i.toNat) = true then
          (D 10 [.agg [.sc (.int .i64 ((cel 0 (nf i.toNat).cells).toInt)), .sc (.int .i64 ((cel 1 (nf i.toNat).cells).toInt)), .sc (.int .i64 ((cel 2 (nf i.toNat).cells).toInt)), .sc (.int .i64 ((cel 3 (nf i.toNat).cells).toInt)), .sc (.string ((cel 4 (nf i.toNat).cells).toStr)), .sc (.int .i64 ((cel 5 (nf i.toNat).cells).toInt)), .sc (.int .i64 ((cel 6 (nf i.toNat).cells).toInt)), .sc (.bool ((cel 7 (nf i.toNat).cells).toBool)), .sc (.bool ((cel 8 (nf i.toNat).cells).toBool)), .sc (.int .i64 ((cel 9 (nf i.toNat).cells).toInt)), .sc (.int .i64 ((cel 10 (nf i.toNat).cells).toInt)), .sc (.bool ((cel 11 (nf i.toNat).cells).toBool)), .sc (.bool ((cel 12 (nf i.toNat).cells).toBool)), .lst 14 ((cel 13 (nf i.toNat).cells).len) ((cel 13 (nf i.toNat).cells).at)]]).bind fun r1 => if hasSh (.lst 14) r1 = true then
          if (out.length + ((List.range r1.len).map r1.at).length) * 120 ≤ 140737488355328 ∧ out.length + ((List.range r1.len).map r1.at).length ≤ 140737488355328 then
            f10.l0a k (IntKind.i64.wrap (i + 1)) n_ n__1 n__2 n__3 n__4 n__5 n__6 n__7 n__8 n__9 n__10 n__11 n__12 nn nf (out ++ ((List.range r1.len).map r1.at))
          else none
          else none
        else none
      else none
    else none
  else
    some (frozen 14 out) :=
  (loopAt_eq _ _ _ _).trans (by kernel_rfl)
end EA
end Go.Den
