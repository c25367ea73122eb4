import Derived.Test.YtkhbkbkambflbaaGreatDoorETh
import Derived.KernelRfl
set_option maxRecDepth 100000
set_option linter.unusedVariables false
namespace Go.Den
open Go Go.Proofs
namespace ET
-- oculus/parse.levels
theorem f80_eq (k : Nat) (level : Int) (sign : ByteArray) : D 80 [.sc (.int .i64 level), .sc (.string sign)] =
 if (level == 1) = true then
 if (sign.toList == (⟨#[61]⟩ : ByteArray).toList) = true then
 some (.sc (.int .i64 7))
 else
 if (sign.toList == (⟨#[60, 62]⟩ : ByteArray).toList) = true then
 some (.sc (.int .i64 8))
 else
 if (sign.toList == (⟨#[60]⟩ : ByteArray).toList) = true then
 some (.sc (.int .i64 9))
 else
 if (sign.toList == (⟨#[60, 61]⟩ : ByteArray).toList) = true then
 some (.sc (.int .i64 10))
 else
 if (sign.toList == (⟨#[62]⟩ : ByteArray).toList) = true then
 some (.sc (.int .i64 11))
 else
 if (sign.toList == (⟨#[62, 61]⟩ : ByteArray).toList) = true then
 some (.sc (.int .i64 12))
 else
 some (.sc (.int .i64 0))
 else
 if (level == 2) = true then
 if (sign.toList == (⟨#[38]⟩ : ByteArray).toList) = true then
 some (.sc (.int .i64 6))
 else
 some (.sc (.int .i64 0))
 else
 if (level == 3) = true then
 if (sign.toList == (⟨#[43]⟩ : ByteArray).toList) = true then
 some (.sc (.int .i64 1))
 else
 if (sign.toList == (⟨#[45]⟩ : ByteArray).toList) = true then
 some (.sc (.int .i64 2))
 else
 some (.sc (.int .i64 0))
 else
 if (level == 4) = true then
 if (sign.toList == (⟨#[42]⟩ : ByteArray).toList) = true then
 some (.sc (.int .i64 3))
 else
 if (sign.toList == (⟨#[47]⟩ : ByteArray).toList) = true then
 some (.sc (.int .i64 4))
 else
 some (.sc (.int .i64 0))
 else
 if (level == 5) = true then
 if (sign.toList == (⟨#[94]⟩ : ByteArray).toList) = true then
 some (.sc (.int .i64 5))
 else
 some (.sc (.int .i64 0))
 else
 some (.sc (.int .i64 0)) :=
 (denI_eq k _ _).trans (by kernel_rfl)
-- oculus/node.Right
noncomputable def f43.l0a (k : Nat) (t7n : Nat) (t7f : Nat → PV) (t8 t9 n_ n__1 n__2 n__3 : Int) (n__4 : ByteArray) (n__5 n__6 : Int) (n__7 n__8 : Bool) (n__9 n__10 : Int) (n__11 n__12 : Bool) (nn : Nat) (nf : Nat → PV) : Option PV := loopAt Tryz.prog cf ext hint k 43 [1, 0, 1, 0] ⟨([.top, .ptr 0 0] ++ tops 5 ([.lst 14 t7n t7f, .sc (.int .i64 t8), .sc (.int .i64 t9)] ++ tops 112 ([]))), [.cells 29 [.sc (.int .i64 n_), .sc (.int .i64 n__1), .sc (.int .i64 n__2), .sc (.int .i64 n__3), .sc (.string n__4), .sc (.int .i64 n__5), .sc (.int .i64 n__6), .sc (.bool n__7), .sc (.bool n__8), .sc (.int .i64 n__9), .sc (.int .i64 n__10), .sc (.bool n__11), .sc (.bool n__12), .lst 14 nn nf]], none⟩
theorem f43_eq (k : Nat) (n_ n__1 n__2 n__3 : Int) (n__4 : ByteArray) (n__5 n__6 : Int) (n__7 n__8 : Bool) (n__9 n__10 : Int) (n__11 n__12 : Bool) (nn : Nat) (nf : Nat → PV) : D 43 [.agg [.sc (.int .i64 n_), .sc (.int .i64 n__1), .sc (.int .i64 n__2), .sc (.int .i64 n__3), .sc (.string n__4), .sc (.int .i64 n__5), .sc (.int .i64 n__6), .sc (.bool n__7), .sc (.bool n__8), .sc (.int .i64 n__9), .sc (.int .i64 n__10), .sc (.bool n__11), .sc (.bool n__12), .lst 14 nn nf]] =
 f43.l0a k nn nf (nn : Int) 0 n_ n__1 n__2 n__3 n__4 n__5 n__6 n__7 n__8 n__9 n__10 n__11 n__12 nn nf :=
 (denI_eq k _ _).trans (by kernel_rfl)
theorem f43.l0a_eq (k : Nat) (t7n : Nat) (t7f : Nat → PV) (t8 t9 n_ n__1 n__2 n__3 : Int) (n__4 : ByteArray) (n__5 n__6 : Int) (n__7 n__8 : Bool) (n__9 n__10 : Int) (n__11 n__12 : Bool) (nn : Nat) (nf : Nat → PV) : f43.l0a k t7n t7f t8 t9 n_ n__1 n__2 n__3 n__4 n__5 n__6 n__7 n__8 n__9 n__10 n__11 n__12 nn nf =
 if decide (t9 < t8) = true then
 if 0 ≤ t9 then
 if t9 < (t7n : Int) then
 if hasSh (.agg [(.int .i64), (.int .i64), (.int .i64), (.int .i64), .str, (.int .i64), (.int .i64), .bool, .bool, (.int .i64), (.int .i64), .bool, .bool, (.lst 14)]) (t7f t9.toNat) = true then
 (D 43 [rbE (t7f t9.toNat)]).bind fun r1 => if hasSh .bool r1 = true then
 if (!r1.toBool) = true then
 some (.sc (.bool false))
 else
 f43.l0a k t7n t7f t8 (IntKind.i64.wrap (t9 + 1)) n_ n__1 n__2 n__3 n__4 n__5 n__6 n__7 n__8 n__9 n__10 n__11 n__12 nn nf
 else none
 else none
 else none
 else none
 else
 (D 81 [.agg [.sc (.int .i64 n_), .sc (.int .i64 n__1), .sc (.int .i64 n__2), .sc (.int .i64 n__3), .sc (.string n__4), .sc (.int .i64 n__5), .sc (.int .i64 n__6), .sc (.bool n__7), .sc (.bool n__8), .sc (.int .i64 n__9), .sc (.int .i64 n__10), .sc (.bool n__11), .sc (.bool n__12), .lst 14 nn nf]]).bind fun r2 => if hasSh (.int .u64) r2 = true then
 if (n_ == 1) = true then
 Option.bind (α := PV) (
 if ((bits .andNot .u64 r2.toInt 2) == 0) = true then
 Option.bind (α := PV) (
 Option.bind (α := PV) (
 (D 82 [.agg [.sc (.int .i64 n__2), .sc (.int .i64 n__3), .sc (.string n__4)]]).bind fun r3 => if hasSh .bool r3 = true then
 some (.sc (.bool r3.toBool))
 else none) fun r4 =>
 some (.sc (.bool r4.toBool))) fun r5 =>
 some (.sc (.bool r5.toBool))
 else
 some (.sc (.bool false))) fun r6 =>
 some (.sc (.bool r6.toBool))
 else
 if (n_ == 2) = true then
 some (.sc (.bool (r2.toInt == 0)))
 else
 if (n_ == 3) = true then
 Option.bind (α := PV) (
 if ((bits .andNot .u64 r2.toInt 4) == 0) = true then
 Option.bind (α := PV) (
 Option.bind (α := PV) (
 (D 83 [.agg [.sc (.int .i64 n__5), .sc (.int .i64 n__6), .sc (.bool n__7), .sc (.bool n__8)]]).bind fun r7 => if hasSh .bool r7 = true then
 some (.sc (.bool r7.toBool))
 else none) fun r8 =>
 some (.sc (.bool r8.toBool))) fun r9 =>
 some (.sc (.bool r9.toBool))
 else
 some (.sc (.bool false))) fun r10 =>
 some (.sc (.bool r10.toBool))
 else
 if (n_ == 4) = true then
 Option.bind (α := PV) (
 if ((bits .andNot .u64 r2.toInt 12) == 0) = true then
 Option.bind (α := PV) (
 Option.bind (α := PV) (
 (D 83 [.agg [.sc (.int .i64 n__5), .sc (.int .i64 n__6), .sc (.bool n__7), .sc (.bool n__8)]]).bind fun r11 => if hasSh .bool r11 = true then
 some (.sc (.bool r11.toBool))
 else none) fun r12 =>
 some (.sc (.bool r12.toBool))) fun r13 =>
 some (.sc (.bool r13.toBool))
 else
 some (.sc (.bool false))) fun r14 =>
 Option.bind (α := PV) (
 if r14.toBool = true then
 Option.bind (α := PV) (
 Option.bind (α := PV) (
 (D 83 [.agg [.sc (.int .i64 n__9), .sc (.int .i64 n__10), .sc (.bool n__11), .sc (.bool n__12)]]).bind fun r15 => if hasSh .bool r15 = true then
 some (.sc (.bool r15.toBool))
 else none) fun r16 =>
 some (.sc (.bool r16.toBool))) fun r17 =>
 some (.sc (.bool r17.toBool))
 else
 some (.sc (.bool false))) fun r18 =>
 some (.sc (.bool r18.toBool))
 else
 if (n_ == 5) = true then
 Option.bind (α := PV) (
 if ((bits .andNot .u64 r2.toInt 16) == 0) = true then
 some (.sc (.bool ((nn : Int) == 1)))
 else
 some (.sc (.bool false))) fun r19 =>
 Option.bind (α := PV) (
 if r19.toBool = true then
 Option.bind (α := PV) (
 Option.bind (α := PV) (
 if 0 < (nn : Int) then
 if hasSh (.agg [(.int .i64), (.int .i64), (.int .i64), (.int .i64), .str, (.int .i64), (.int .i64), .bool, .bool, (.int .i64), (.int .i64), .bool, .bool, (.lst 14)]) (nf 0) = true then
 Option.bind (α := PV) (
 Option.bind (α := PV) (
 (D 84 [.sc (.int .u8 118), rbE (nf 0)]).bind fun r20 => if hasSh .bool r20 = true then
 some (.sc (.bool r20.toBool))
 else none) fun r21 =>
 some (.sc (.bool r21.toBool))) fun r22 =>
 some (.sc (.bool r22.toBool))
 else none
 else none) fun r23 =>
 some (.sc (.bool r23.toBool))) fun r24 =>
 some (.sc (.bool r24.toBool))
 else
 some (.sc (.bool false))) fun r25 =>
 some (.sc (.bool r25.toBool))
 else
 if (n_ == 6) = true then
 Option.bind (α := PV) (
 if ((bits .andNot .u64 r2.toInt 17) == 0) = true then
 some (.sc (.bool (decide (n__1 ≥ 1))))
 else
 some (.sc (.bool false))) fun r26 =>
 Option.bind (α := PV) (
 if r26.toBool = true then
 some (.sc (.bool (decide (n__1 ≤ 12))))
 else
 some (.sc (.bool false))) fun r27 =>
 Option.bind (α := PV) (
 if r27.toBool = true then
 some (.sc (.bool ((nn : Int) == 2)))
 else
 some (.sc (.bool false))) fun r28 =>
 Option.bind (α := PV) (
 if r28.toBool = true then
 Option.bind (α := PV) (
 Option.bind (α := PV) (
 if 0 < (nn : Int) then
 if hasSh (.agg [(.int .i64), (.int .i64), (.int .i64), (.int .i64), .str, (.int .i64), (.int .i64), .bool, .bool, (.int .i64), (.int .i64), .bool, .bool, (.lst 14)]) (nf 0) = true then
 Option.bind (α := PV) (
 Option.bind (α := PV) (
 (D 84 [.sc (.int .u8 118), rbE (nf 0)]).bind fun r29 => if hasSh .bool r29 = true then
 some (.sc (.bool r29.toBool))
 else none) fun r30 =>
 some (.sc (.bool r30.toBool))) fun r31 =>
 some (.sc (.bool r31.toBool))
 else none
 else none) fun r32 =>
 some (.sc (.bool r32.toBool))) fun r33 =>
 some (.sc (.bool r33.toBool))
 else
 some (.sc (.bool false))) fun r34 =>
 Option.bind (α := PV) (
 if r34.toBool = true then
 Option.bind (α := PV) (
 Option.bind (α := PV) (
 if 1 < (nn : Int) then
 if hasSh (.agg [(.int .i64), (.int .i64), (.int .i64), (.int .i64), .str, (.int .i64), (.int .i64), .bool, .bool, (.int .i64), (.int .i64), .bool, .bool, (.lst 14)]) (nf 1) = true then
 Option.bind (α := PV) (
 Option.bind (α := PV) (
 (D 84 [.sc (.int .u8 118), rbE (nf 1)]).bind fun r35 => if hasSh .bool r35 = true then
 some (.sc (.bool r35.toBool))
 else none) fun r36 =>
 some (.sc (.bool r36.toBool))) fun r37 =>
 some (.sc (.bool r37.toBool))
 else none
 else none) fun r38 =>
 some (.sc (.bool r38.toBool))) fun r39 =>
 some (.sc (.bool r39.toBool))
 else
 some (.sc (.bool false))) fun r40 =>
 some (.sc (.bool r40.toBool))
 else
 if (n_ == 7) = true then
 Option.bind (α := PV) (
 if ((bits .andNot .u64 r2.toInt 17) == 0) = true then
 Option.bind (α := PV) (
 (D 85 [.agg [.sc (.int .i64 n_), .sc (.int .i64 n__1), .sc (.int .i64 n__2), .sc (.int .i64 n__3), .sc (.string n__4), .sc (.int .i64 n__5), .sc (.int .i64 n__6), .sc (.bool n__7), .sc (.bool n__8), .sc (.int .i64 n__9), .sc (.int .i64 n__10), .sc (.bool n__11), .sc (.bool n__12), .lst 14 nn nf]]).bind fun r41 => if hasSh .bool r41 = true then
 some (.sc (.bool r41.toBool))
 else none) fun r42 =>
 some (.sc (.bool r42.toBool))
 else
 some (.sc (.bool false))) fun r43 =>
 some (.sc (.bool r43.toBool))
 else
 some (.sc (.bool false))
 else none :=
 (loopAt_eq _ _ _ _).trans (by kernel_rfl)
end ET
end Go.Den
