import Derived.Test.YtcncojlgapknpaaEAh
import Derived.KernelRfl
set_option maxRecDepth 100000
set_option linter.unusedVariables false
namespace Go.Den
open Go Go.Proofs
namespace EA
-- oculus/oculuslaw25.ShiftBack
noncomputable def f4.l0a (k : Nat) (t27 t28 n_ n__1 n__2 n__3 : Int) (n__4 : ByteArray) (n__5 n__6 : Int) (n__7 n__8 : Bool) (n__9 n__10 : Int) (n__11 n__12 : Bool) (nn : Nat) (nf : Nat → PV) (grid grid_1 a a_1 b b_1 : Int) (xs4 : List PV) : Option PV := loopAt Try.prog 6 ext hint k 4 [1, 1, 0, 1, 0] ⟨[.top, .top, .top, .ptr 0 0, .top, .ptr 1 0, .top, .ptr 2 0, .ptr 3 0, .top, .top, .top, .top, .top, .top, .top, .top, .top, .top, .top, .top, .top, .top, .top, .top, .top, .buf 4 0, .sc (.int .i64 t27), .sc (.int .i64 t28), .top, .top, .top, .top, .top, .top, .top, .top, .top, .top, .top, .top, .top, .top, .top, .top, .top, .top, .top, .top, .top, .top, .top, .top, .top, .top, .top, .top, .top, .top, .top, .top, .top, .top, .top, .top, .top, .top, .top, .top, .top, .top, .top, .top, .top, .top, .top, .top, .top, .top, .top, .top, .top, .top, .top, .top, .top, .top, .top, .top, .top, .top, .top, .top, .top, .top, .top, .top, .top, .top, .top, .top, .top, .top, .top, .top, .top, .top, .top, .top, .top, .top], [.cells [.sc (.int .i64 n_), .sc (.int .i64 n__1), .sc (.int .i64 n__2), .sc (.int .i64 n__3), .sc (.string n__4), .sc (.int .i64 n__5), .sc (.int .i64 n__6), .sc (.bool n__7), .sc (.bool n__8), .sc (.int .i64 n__9), .sc (.int .i64 n__10), .sc (.bool n__11), .sc (.bool n__12), .lst 14 nn nf], .cells [.sc (.int .i64 grid), .sc (.int .i64 grid_1)], .cells [.sc (.int .i64 a), .sc (.int .i64 a_1)], .cells [.sc (.int .i64 b), .sc (.int .i64 b_1)], .buf 3 0 xs4]⟩
theorem f4_eq (k : Nat) (n_ n__1 n__2 n__3 : Int) (n__4 : ByteArray) (n__5 n__6 : Int) (n__7 n__8 : Bool) (n__9 n__10 : Int) (n__11 n__12 : Bool) (nn : Nat) (nf : Nat → PV) (q q_1 q_2 q_3 grid grid_1 : Int) : D 4 [.agg [.sc (.int .i64 n_), .sc (.int .i64 n__1), .sc (.int .i64 n__2), .sc (.int .i64 n__3), .sc (.string n__4), .sc (.int .i64 n__5), .sc (.int .i64 n__6), .sc (.bool n__7), .sc (.bool n__8), .sc (.int .i64 n__9), .sc (.int .i64 n__10), .sc (.bool n__11), .sc (.bool n__12), .lst 14 nn nf], .agg [.sc (.int .i64 q), .sc (.int .i64 q_1), .sc (.int .i64 q_2), .sc (.int .i64 q_3)], .agg [.sc (.int .i64 grid), .sc (.int .i64 grid_1)]] =
  f4.l0a k (([.sc (.int .i64 q), .sc (.int .i64 q_1), .sc (.int .i64 q_2), .sc (.int .i64 q_3)] : List PV).length : Int) 0 n_ n__1 n__2 n__3 n__4 n__5 n__6 n__7 n__8 n__9 n__10 n__11 n__12 nn nf grid grid_1 q q_1 q_2 q_3 ([.sc (.int .i64 q), .sc (.int .i64 q_1), .sc (.int .i64 q_2), .sc (.int .i64 q_3)] : List PV) :=
  (denI_eq k _ _).trans (by kernel_rfl)
theorem f4.l0a_eq (k : Nat) (t27 t28 n_ n__1 n__2 n__3 : Int) (n__4 : ByteArray) (n__5 n__6 : Int) (n__7 n__8 : Bool) (n__9 n__10 : Int) (n__11 n__12 : Bool) (nn : Nat) (nf : Nat → PV) (grid grid_1 a a_1 b b_1 : Int) (xs4 : List PV) : f4.l0a k t27 t28 n_ n__1 n__2 n__3 n__4 n__5 n__6 n__7 n__8 n__9 n__10 n__11 n__12 nn nf grid grid_1 a a_1 b b_1 xs4 =
  if decide (t28 < t27) = true then
    if 0 ≤ t28 then
      if t28 < (xs4.length : Int) then
        if hasSh (.int .i64) (xs4.getD t28.toNat .top) = true then
          Option.bind (α := PV) (
            if decide (((xs4.getD t28.toNat .top).toInt) < (-500)) = true then
              some (.sc (.bool true))
            else
              some (.sc (.bool (decide (((xs4.getD t28.toNat .top).toInt) > 500))))) fun r1 =>
          if r1.toBool = true then
            (D 6 []).bind fun r2 => if hasSh .bool r2 = true then
            some (.sc (.bool r2.toBool))
            else none
          else
            f4.l0a k t27 (IntKind.i64.wrap (t28 + 1)) n_ n__1 n__2 n__3 n__4 n__5 n__6 n__7 n__8 n__9 n__10 n__11 n__12 nn nf grid grid_1 a a_1 b b_1 xs4
        else none
      else none
    else none
  else
    (D 7 [.agg [.sc (.int .i64 n_), .sc (.int .i64 n__1), .sc (.int .i64 n__2), .sc (.int .i64 n__3), .sc (.string n__4), .sc (.int .i64 n__5), .sc (.int .i64 n__6), .sc (.bool n__7), .sc (.bool n__8), .sc (.int .i64 n__9), .sc (.int .i64 n__10), .sc (.bool n__11), .sc (.bool n__12), .lst 14 nn nf], .agg [.sc (.int .i64 a), .sc (.int .i64 a_1)], .agg [.sc (.int .i64 grid), .sc (.int .i64 grid_1)]]).bind fun r3 => if hasSh (.agg [(.int .i64), (.int .i64), (.int .i64), (.int .i64), .str, (.int .i64), (.int .i64), .bool, .bool, (.int .i64), (.int .i64), .bool, .bool, (.lst 14)]) r3 = true then
    (D 5 [.agg [.sc (.int .i64 n_), .sc (.int .i64 n__1), .sc (.int .i64 n__2), .sc (.int .i64 n__3), .sc (.string n__4), .sc (.int .i64 n__5), .sc (.int .i64 n__6), .sc (.bool n__7), .sc (.bool n__8), .sc (.int .i64 n__9), .sc (.int .i64 n__10), .sc (.bool n__11), .sc (.bool n__12), .lst 14 nn nf]]).bind fun r4 => if hasSh .bool r4 = true then
    Option.bind (α := PV) (
      if (!r4.toBool) = true then
        some (.sc (.bool true))
      else
        Option.bind (α := PV) (
          (D 8 [.agg [.sc (.int .i64 n_), .sc (.int .i64 n__1), .sc (.int .i64 n__2), .sc (.int .i64 n__3), .sc (.string n__4), .sc (.int .i64 n__5), .sc (.int .i64 n__6), .sc (.bool n__7), .sc (.bool n__8), .sc (.int .i64 n__9), .sc (.int .i64 n__10), .sc (.bool n__11), .sc (.bool n__12), .lst 14 nn nf]]).bind fun r5 => if hasSh .bool r5 = true then
          some (.sc (.bool (!r5.toBool)))
          else none) fun r6 =>
        some (.sc (.bool r6.toBool))) fun r7 =>
    Option.bind (α := PV) (
      if r7.toBool = true then
        some (.sc (.bool true))
      else
        Option.bind (α := PV) (
          (D 11 [.agg [.sc (.int .i64 ((cel 0 r3.cells).toInt)), .sc (.int .i64 ((cel 1 r3.cells).toInt)), .sc (.int .i64 ((cel 2 r3.cells).toInt)), .sc (.int .i64 ((cel 3 r3.cells).toInt)), .sc (.string ((cel 4 r3.cells).toStr)), .sc (.int .i64 ((cel 5 r3.cells).toInt)), .sc (.int .i64 ((cel 6 r3.cells).toInt)), .sc (.bool ((cel 7 r3.cells).toBool)), .sc (.bool ((cel 8 r3.cells).toBool)), .sc (.int .i64 ((cel 9 r3.cells).toInt)), .sc (.int .i64 ((cel 10 r3.cells).toInt)), .sc (.bool ((cel 11 r3.cells).toBool)), .sc (.bool ((cel 12 r3.cells).toBool)), .lst 14 ((cel 13 r3.cells).len) ((cel 13 r3.cells).at)]]).bind fun r8 => if hasSh (.int .i64) r8 = true then
          Option.bind (α := PV) (
            Option.bind (α := PV) (
              (D 11 [.agg [.sc (.int .i64 n_), .sc (.int .i64 n__1), .sc (.int .i64 n__2), .sc (.int .i64 n__3), .sc (.string n__4), .sc (.int .i64 n__5), .sc (.int .i64 n__6), .sc (.bool n__7), .sc (.bool n__8), .sc (.int .i64 n__9), .sc (.int .i64 n__10), .sc (.bool n__11), .sc (.bool n__12), .lst 14 nn nf]]).bind fun r9 => if hasSh (.int .i64) r9 = true then
              some (.sc (.bool (decide (r8.toInt > r9.toInt))))
              else none) fun r10 =>
            some (.sc (.bool r10.toBool))) fun r11 =>
          some (.sc (.bool r11.toBool))
          else none) fun r12 =>
        some (.sc (.bool r12.toBool))) fun r13 =>
    if r13.toBool = true then
      (D 6 []).bind fun r14 => if hasSh .bool r14 = true then
      some (.sc (.bool r14.toBool))
      else none
    else
      (D 7 [.agg [.sc (.int .i64 ((cel 0 r3.cells).toInt)), .sc (.int .i64 ((cel 1 r3.cells).toInt)), .sc (.int .i64 ((cel 2 r3.cells).toInt)), .sc (.int .i64 ((cel 3 r3.cells).toInt)), .sc (.string ((cel 4 r3.cells).toStr)), .sc (.int .i64 ((cel 5 r3.cells).toInt)), .sc (.int .i64 ((cel 6 r3.cells).toInt)), .sc (.bool ((cel 7 r3.cells).toBool)), .sc (.bool ((cel 8 r3.cells).toBool)), .sc (.int .i64 ((cel 9 r3.cells).toInt)), .sc (.int .i64 ((cel 10 r3.cells).toInt)), .sc (.bool ((cel 11 r3.cells).toBool)), .sc (.bool ((cel 12 r3.cells).toBool)), .lst 14 ((cel 13 r3.cells).len) ((cel 13 r3.cells).at)], .agg [.sc (.int .i64 (IntKind.i64.wrap (0 - a))), .sc (.int .i64 (IntKind.i64.wrap (0 - a_1)))], .agg [.sc (.int .i64 grid), .sc (.int .i64 grid_1)]]).bind fun r15 => if hasSh (.agg [(.int .i64), (.int .i64), (.int .i64), (.int .i64), .str, (.int .i64), (.int .i64), .bool, .bool, (.int .i64), (.int .i64), .bool, .bool, (.lst 14)]) r15 = true then
      (D 11 [.agg [.sc (.int .i64 ((cel 0 r15.cells).toInt)), .sc (.int .i64 ((cel 1 r15.cells).toInt)), .sc (.int .i64 ((cel 2 r15.cells).toInt)), .sc (.int .i64 ((cel 3 r15.cells).toInt)), .sc (.string ((cel 4 r15.cells).toStr)), .sc (.int .i64 ((cel 5 r15.cells).toInt)), .sc (.int .i64 ((cel 6 r15.cells).toInt)), .sc (.bool ((cel 7 r15.cells).toBool)), .sc (.bool ((cel 8 r15.cells).toBool)), .sc (.int .i64 ((cel 9 r15.cells).toInt)), .sc (.int .i64 ((cel 10 r15.cells).toInt)), .sc (.bool ((cel 11 r15.cells).toBool)), .sc (.bool ((cel 12 r15.cells).toBool)), .lst 14 ((cel 13 r15.cells).len) ((cel 13 r15.cells).at)]]).bind fun r16 => if hasSh (.int .i64) r16 = true then
      (D 11 [.agg [.sc (.int .i64 n_), .sc (.int .i64 n__1), .sc (.int .i64 n__2), .sc (.int .i64 n__3), .sc (.string n__4), .sc (.int .i64 n__5), .sc (.int .i64 n__6), .sc (.bool n__7), .sc (.bool n__8), .sc (.int .i64 n__9), .sc (.int .i64 n__10), .sc (.bool n__11), .sc (.bool n__12), .lst 14 nn nf]]).bind fun r17 => if hasSh (.int .i64) r17 = true then
      Option.bind (α := PV) (
        if (r16.toInt == r17.toInt) = true then
          Option.bind (α := PV) (
            Option.bind (α := PV) (
              (D 12 [.agg [.sc (.int .i64 ((cel 0 r15.cells).toInt)), .sc (.int .i64 ((cel 1 r15.cells).toInt)), .sc (.int .i64 ((cel 2 r15.cells).toInt)), .sc (.int .i64 ((cel 3 r15.cells).toInt)), .sc (.string ((cel 4 r15.cells).toStr)), .sc (.int .i64 ((cel 5 r15.cells).toInt)), .sc (.int .i64 ((cel 6 r15.cells).toInt)), .sc (.bool ((cel 7 r15.cells).toBool)), .sc (.bool ((cel 8 r15.cells).toBool)), .sc (.int .i64 ((cel 9 r15.cells).toInt)), .sc (.int .i64 ((cel 10 r15.cells).toInt)), .sc (.bool ((cel 11 r15.cells).toBool)), .sc (.bool ((cel 12 r15.cells).toBool)), .lst 14 ((cel 13 r15.cells).len) ((cel 13 r15.cells).at)], .agg [.sc (.int .i64 n_), .sc (.int .i64 n__1), .sc (.int .i64 n__2), .sc (.int .i64 n__3), .sc (.string n__4), .sc (.int .i64 n__5), .sc (.int .i64 n__6), .sc (.bool n__7), .sc (.bool n__8), .sc (.int .i64 n__9), .sc (.int .i64 n__10), .sc (.bool n__11), .sc (.bool n__12), .lst 14 nn nf]]).bind fun r18 => if hasSh .bool r18 = true then
              some (.sc (.bool (!r18.toBool)))
              else none) fun r19 =>
            some (.sc (.bool r19.toBool))) fun r20 =>
          some (.sc (.bool r20.toBool))
        else
          some (.sc (.bool false))) fun r21 =>
      if r21.toBool = true then
        some (.sc (.bool false))
      else
        (D 7 [.agg [.sc (.int .i64 ((cel 0 r3.cells).toInt)), .sc (.int .i64 ((cel 1 r3.cells).toInt)), .sc (.int .i64 ((cel 2 r3.cells).toInt)), .sc (.int .i64 ((cel 3 r3.cells).toInt)), .sc (.string ((cel 4 r3.cells).toStr)), .sc (.int .i64 ((cel 5 r3.cells).toInt)), .sc (.int .i64 ((cel 6 r3.cells).toInt)), .sc (.bool ((cel 7 r3.cells).toBool)), .sc (.bool ((cel 8 r3.cells).toBool)), .sc (.int .i64 ((cel 9 r3.cells).toInt)), .sc (.int .i64 ((cel 10 r3.cells).toInt)), .sc (.bool ((cel 11 r3.cells).toBool)), .sc (.bool ((cel 12 r3.cells).toBool)), .lst 14 ((cel 13 r3.cells).len) ((cel 13 r3.cells).at)], .agg [.sc (.int .i64 b), .sc (.int .i64 b_1)], .agg [.sc (.int .i64 grid), .sc (.int .i64 grid_1)]]).bind fun r22 => if hasSh (.agg [(.int .i64), (.int .i64), (.int .i64), (.int .i64), .str, (.int .i64), (.int .i64), .bool, .bool, (.int .i64), (.int .i64), .bool, .bool, (.lst 14)]) r22 = true then
        (D 11 [.agg [.sc (.int .i64 ((cel 0 r22.cells).toInt)), .sc (.int .i64 ((cel 1 r22.cells).toInt)), .sc (.int .i64 ((cel 2 r22.cells).toInt)), .sc (.int .i64 ((cel 3 r22.cells).toInt)), .sc (.string ((cel 4 r22.cells).toStr)), .sc (.int .i64 ((cel 5 r22.cells).toInt)), .sc (.int .i64 ((cel 6 r22.cells).toInt)), .sc (.bool ((cel 7 r22.cells).toBool)), .sc (.bool ((cel 8 r22.cells).toBool)), .sc (.int .i64 ((cel 9 r22.cells).toInt)), .sc (.int .i64 ((cel 10 r22.cells).toInt)), .sc (.bool ((cel 11 r22.cells).toBool)), .sc (.bool ((cel 12 r22.cells).toBool)), .lst 14 ((cel 13 r22.cells).len) ((cel 13 r22.cells).at)]]).bind fun r23 => if hasSh (.int .i64) r23 = true then
        (D 11 [.agg [.sc (.int .i64 n_), .sc (.int .i64 n__1), .sc (.int .i64 n__2), .sc (.int .i64 n__3), .sc (.string n__4), .sc (.int .i64 n__5), .sc (.int .i64 n__6), .sc (.bool n__7), .sc (.bool n__8), .sc (.int .i64 n__9), .sc (.int .i64 n__10), .sc (.bool n__11), .sc (.bool n__12), .lst 14 nn nf]]).bind fun r24 => if hasSh (.int .i64) r24 = true then
        if decide (r23.toInt > r24.toInt) = true then
          (D 6 []).bind fun r25 => if hasSh .bool r25 = true then
          some (.sc (.bool r25.toBool))
          else none
        else
          (D 7 [.agg [.sc (.int .i64 n_), .sc (.int .i64 n__1), .sc (.int .i64 n__2), .sc (.int .i64 n__3), .sc (.string n__4), .sc (.int .i64 n__5), .sc (.int .i64 n__6), .sc (.bool n__7), .sc (.bool n__8), .sc (.int .i64 n__9), .sc (.int .i64 n__10), .sc (.bool n__11), .sc (.bool n__12), .lst 14 nn nf], .agg [.sc (.int .i64 (IntKind.i64.wrap (a + b))), .sc (.int .i64 (IntKind.i64.wrap (a_1 + b_1)))], .agg [.sc (.int .i64 grid), .sc (.int .i64 grid_1)]]).bind fun r26 => if hasSh (.agg [(.int .i64), (.int .i64), (.int .i64), (.int .i64), .str, (.int .i64), (.int .i64), .bool, .bool, (.int .i64), (.int .i64), .bool, .bool, (.lst 14)]) r26 = true then
          (D 12 [.agg [.sc (.int .i64 ((cel 0 r22.cells).toInt)), .sc (.int .i64 ((cel 1 r22.cells).toInt)), .sc (.int .i64 ((cel 2 r22.cells).toInt)), .sc (.int .i64 ((cel 3 r22.cells).toInt)), .sc (.string ((cel 4 r22.cells).toStr)), .sc (.int .i64 ((cel 5 r22.cells).toInt)), .sc (.int .i64 ((cel 6 r22.cells).toInt)), .sc (.bool ((cel 7 r22.cells).toBool)), .sc (.bool ((cel 8 r22.cells).toBool)), .sc (.int .i64 ((cel 9 r22.cells).toInt)), .sc (.int .i64 ((cel 10 r22.cells).toInt)), .sc (.bool ((cel 11 r22.cells).toBool)), .sc (.bool ((cel 12 r22.cells).toBool)), .lst 14 ((cel 13 r22.cells).len) ((cel 13 r22.cells).at)], .agg [.sc (.int .i64 ((cel 0 r26.cells).toInt)), .sc (.int .i64 ((cel 1 r26.cells).toInt)), .sc (.int .i64 ((cel 2 r26.cells).toInt)), .sc (.int .i64 ((cel 3 r26.cells).toInt)), .sc (.string ((cel 4 r26.cells).toStr)), .sc (.int .i64 ((cel 5 r26.cells).toInt)), .sc (.int .i64 ((cel 6 r26.cells).toInt)), .sc (.bool ((cel 7 r26.cells).toBool)), .sc (.bool ((cel 8 r26.cells).toBool)), .sc (.int .i64 ((cel 9 r26.cells).toInt)), .sc (.int .i64 ((cel 10 r26.cells).toInt)), .sc (.bool ((cel 11 r26.cells).toBool)), .sc (.bool ((cel 12 r26.cells).toBool)), .lst 14 ((cel 13 r26.cells).len) ((cel 13 r26.cells).at)]]).bind fun r27 => if hasSh .bool r27 = true then
          if r27.toBool = true then
            (D 6 []).bind fun r28 => if hasSh .bool r28 = true then
            some (.sc (.bool r28.toBool))
            else none
          else
            some (.sc (.bool false))
          else none
          else none
        else none
        else none
        else none
      else none
      else none
      else none
    else none
    else none :=
  (loopAt_eq _ _ _ _).trans (by kernel_rfl)
-- oculus/oculuslaw25.few
theorem f5_eq (k : Nat) (n_ n__1 n__2 n__3 : Int) (n__4 : ByteArray) (n__5 n__6 : Int) (n__7 n__8 : Bool) (n__9 n__10 : Int) (n__11 n__12 : Bool) (nn : Nat) (nf : Nat → PV) : D 5 [.agg [.sc (.int .i64 n_), .sc (.int .i64 n__1), .sc (.int .i64 n__2), .sc (.int .i64 n__3), .sc (.string n__4), .sc (.int .i64 n__5), .sc (.int .i64 n__6), .sc (.bool n__7), .sc (.bool n__8), .sc (.int .i64 n__9), .sc (.int .i64 n__10), .sc (.bool n__11), .sc (.bool n__12), .lst 14 nn nf]] =
  (D 13 [.agg [.sc (.int .i64 n_), .sc (.int .i64 n__1), .sc (.int .i64 n__2), .sc (.int .i64 n__3), .sc (.string n__4), .sc (.int .i64 n__5), .sc (.int .i64 n__6), .sc (.bool n__7), .sc (.bool n__8), .sc (.int .i64 n__9), .sc (.int .i64 n__10), .sc (.bool n__11), .sc (.bool n__12), .lst 14 nn nf], .sc (.int .i64 200)]).bind fun r1 => if hasSh .bool r1 = true then
  some (.sc (.bool r1.toBool))
  else none :=
  (denI_eq k _ _).trans (by kernel_rfl)
-- oculus/oculusref22.Few
theorem f13_eq (k : Nat) (n_ n__1 n__2 n__3 : Int) (n__4 : ByteArray) (n__5 n__6 : Int) (n__7 n__8 : Bool) (n__9 n__10 : Int) (n__11 n__12 : Bool) (nn : Nat) (nf : Nat → PV) (most : Int) : D 13 [.agg [.sc (.int .i64 n_), .sc (.int .i64 n__1), .sc (.int .i64 n__2), .sc (.int .i64 n__3), .sc (.string n__4), .sc (.int .i64 n__5), .sc (.int .i64 n__6), .sc (.bool n__7), .sc (.bool n__8), .sc (.int .i64 n__9), .sc (.int .i64 n__10), .sc (.bool n__11), .sc (.bool n__12), .lst 14 nn nf], .sc (.int .i64 most)] =
  (D 17 [.agg [.sc (.int .i64 n_), .sc (.int .i64 n__1), .sc (.int .i64 n__2), .sc (.int .i64 n__3), .sc (.string n__4), .sc (.int .i64 n__5), .sc (.int .i64 n__6), .sc (.bool n__7), .sc (.bool n__8), .sc (.int .i64 n__9), .sc (.int .i64 n__10), .sc (.bool n__11), .sc (.bool n__12), .lst 14 nn nf], .sc (.int .i64 most)]).bind fun r1 => if hasSh (.int .i64) r1 = true then
  some (.sc (.bool (decide (r1.toInt ≥ 0))))
  else none :=
  (denI_eq k _ _).trans (by kernel_rfl)
-- oculus/oculusref22.Left
noncomputable def f17.l0a (k : Nat) (most i n_ n__1 n__2 n__3 : Int) (n__4 : ByteArray) (n__5 n__6 : Int) (n__7 n__8 : Bool) (n__9 n__10 : Int) (n__11 n__12 : Bool) (nn : Nat) (nf : Nat → PV) : Option PV := loopAt Try.prog 6 ext hint k 17 [1, 1, 0, 1, 0] ⟨[.top, .sc (.int .i64 most), .ptr 0 0, .top, .top, .sc (.int .i64 i), .top, .top, .top, .top, .top, .top, .top, .top, .top, .top, .top, .top, .top, .top, .top, .top, .top, .top, .top, .top, .top], [.cells [.sc (.int .i64 n_), .sc (.int .i64 n__1), .sc (.int .i64 n__2), .sc (.int .i64 n__3), .sc (.string n__4), .sc (.int .i64 n__5), .sc (.int .i64 n__6), .sc (.bool n__7), .sc (.bool n__8), .sc (.int .i64 n__9), .sc (.int .i64 n__10), .sc (.bool n__11), .sc (.bool n__12), .lst 14 nn nf]]⟩
theorem f17_eq (k : Nat) (n_ n__1 n__2 n__3 : Int) (n__4 : ByteArray) (n__5 n__6 : Int) (n__7 n__8 : Bool) (n__9 n__10 : Int) (n__11 n__12 : Bool) (nn : Nat) (nf : Nat → PV) (most : Int) : D 17 [.agg [.sc (.int .i64 n_), .sc (.int .i64 n__1), .sc (.int .i64 n__2), .sc (.int .i64 n__3), .sc (.string n__4), .sc (.int .i64 n__5), .sc (.int .i64 n__6), .sc (.bool n__7), .sc (.bool n__8), .sc (.int .i64 n__9), .sc (.int .i64 n__10), .sc (.bool n__11), .sc (.bool n__12), .lst 14 nn nf], .sc (.int .i64 most)] =
  f17.l0a k (IntKind.i64.wrap (most - 1)) 0 n_ n__1 n__2 n__3 n__4 n__5 n__6 n__7 n__8 n__9 n__10 n__11 n__12 nn nf :=
  (denI_eq k _ _).trans (by kernel_rfl)
theorem f17.l0a_eq (k : Nat) (most i n_ n__1 n__2 n__3 : Int) (n__4 : ByteArray) (n__5 n__6 : Int) (n__7 n__8 : Bool) (n__9 n__10 : Int) (n__11 n__12 : Bool) (nn : Nat) (nf : Nat → PV) : f17.l0a k most i n_ n__1 n__2 n__3 n__4 n__5 n__6 n__7 n__8 n__9 n__10 n__11 n__12 nn nf =
  Option.bind (α := PV) (
    if decide (i < (nn : Int)) = true then
      some (.sc (.bool (decide (most ≥ 0))))
    else
      some (.sc (.bool false))) fun r1 =>
  if r1.toBool = true then
    if 0 ≤ i then
      if i < (nn : Int) then
        if hasSh (.agg [(.int .i64), (.int .i64), (.int .i64), (.int .i64), .str, (.int .i64), (.int .i64), .bool, .bool, (.int .i64), (.int .i64), .bool, .bool, (.lst 14)]) (nf i.toNat) = true then
          (D 17 [.agg [.sc (.int .i64 ((cel 0 (nf i.toNat).cells).toInt)), .sc (.int .i64 ((cel 1 (nf i.toNat).cells).toInt)), .sc (.int .i64 ((cel 2 (nf i.toNat).cells).toInt)), .sc (.int .i64 ((cel 3 (nf i.toNat).cells).toInt)), .sc (.string ((cel 4 (nf i.toNat).cells).toStr)), .sc (.int .i64 ((cel 5 (nf i.toNat).cells).toInt)), .sc (.int .i64 ((cel 6 (nf i.toNat).cells).toInt)), .sc (.bool ((cel 7 (nf i.toNat).cells).toBool)), .sc (.bool ((cel 8 (nf i.toNat).cells).toBool)), .sc (.int .i64 ((cel 9 (nf i.toNat).cells).toInt)), .sc (.int .i64 ((cel 10 (nf i.toNat).cells).toInt)), .sc (.bool ((cel 11 (nf i.toNat).cells).toBool)), .sc (.bool ((cel 12 (nf i.toNat).cells).toBool)), .lst 14 ((cel 13 (nf i.toNat).cells).len) ((cel 13 (nf i.toNat).cells).at)], .sc (.int .i64 most)]).bind fun r2 => if hasSh (.int .i64) r2 = true then
          f17.l0a k r2.toInt (IntKind.i64.wrap (i + 1)) n_ n__1 n__2 n__3 n__4 n__5 n__6 n__7 n__8 n__9 n__10 n__11 n__12 nn nf
          else none
        else none
      else none
    else none
  else
    some (.sc (.int .i64 most)) :=
  (loopAt_eq _ _ _ _).trans (by kernel_rfl)
-- oculus/oculuslaw25.alive
theorem f6_eq (k : Nat)  : D 6 [] =
  (D 14 [.agg [.sc (.int .i64 1), .sc (.int .i64 1), .sc (.bool false), .sc (.bool true)], .agg [.sc (.int .i64 2), .sc (.int .i64 5)], .agg [.sc (.int .i64 9), .sc (.int .i64 4)]]).bind fun r1 => if hasSh (.tup [(.agg [(.int .i64), (.int .i64), .bool, .bool]), .bool]) r1 = true then
  (D 7 [.agg [.sc (.int .i64 5), .sc (.int .i64 0), .sc (.int .i64 0), .sc (.int .i64 0), .sc (.string (⟨#[]⟩ : ByteArray)), .sc (.int .i64 0), .sc (.int .i64 0), .sc (.bool false), .sc (.bool false), .sc (.int .i64 0), .sc (.int .i64 0), .sc (.bool false), .sc (.bool false), frozen 14 ([.agg [.sc (.int .i64 3), .sc (.int .i64 0), .sc (.int .i64 0), .sc (.int .i64 0), .sc (.string (⟨#[]⟩ : ByteArray)), .sc (.int .i64 0), .sc (.int .i64 0), .sc (.bool false), .sc (.bool false), .sc (.int .i64 0), .sc (.int .i64 0), .sc (.bool false), .sc (.bool false), .nils]] : List PV)], .agg [.sc (.int .i64 (-1)), .sc (.int .i64 0)], .agg [.sc (.int .i64 9), .sc (.int .i64 9)]]).bind fun r2 => if hasSh (.agg [(.int .i64), (.int .i64), (.int .i64), (.int .i64), .str, (.int .i64), (.int .i64), .bool, .bool, (.int .i64), (.int .i64), .bool, .bool, (.lst 14)]) r2 = true then
  Option.bind (α := PV) (
    if (cel 1 r1.parts).toBool = true then
      some (.sc (.bool ((((cel 0 (cel 0 r1.parts).cells).toInt) == 3) && ((((cel 1 (cel 0 r1.parts).cells).toInt) == 1) && ((((cel 2 (cel 0 r1.parts).cells).toBool) == false) && ((((cel 3 (cel 0 r1.parts).cells).toBool) == true) && true))))))
    else
      some (.sc (.bool false))) fun r3 =>
  Option.bind (α := PV) (
    if r3.toBool = true then
      some (.sc (.bool (((cel 0 r2.cells).toInt) == 5)))
    else
      some (.sc (.bool false))) fun r4 =>
  Option.bind (α := PV) (
    if r4.toBool = true then
      some (.sc (.bool (((cel 13 r2.cells).len : Int) == 1)))
    else
      some (.sc (.bool false))) fun r5 =>
  Option.bind (α := PV) (
    if r5.toBool = true then
      Option.bind (α := PV) (
        Option.bind (α := PV) (
          if 0 < ((cel 13 r2.cells).len : Int) then
            if hasSh (.agg [(.int .i64), (.int .i64), (.int .i64), (.int .i64), .str, (.int .i64), (.int .i64), .bool, .bool, (.int .i64), (.int .i64), .bool, .bool, (.lst 14)]) (((cel 13 r2.cells).at) 0) = true then
              some (.sc (.bool (((cel 0 (((cel 13 r2.cells).at) 0).cells).toInt) == 2)))
            else none
          else none) fun r6 =>
        some (.sc (.bool r6.toBool))) fun r7 =>
      some (.sc (.bool r7.toBool))
    else
      some (.sc (.bool false))) fun r8 =>
  some (.sc (.bool r8.toBool))
  else none
  else none :=
  (denI_eq k _ _).trans (by kernel_rfl)
end EA
end Go.Den
