import Derived.Test.YtkhbkbkambflbaaGreatDoorETh
import Derived.KernelRfl
set_option maxRecDepth 100000
set_option linter.unusedVariables false
namespace Go.Den
open Go Go.Proofs
namespace ET
-- oculus/oculusref22.List
noncomputable def f51.l0a (k : Nat) (i n_ n__1 n__2 n__3 : Int) (n__4 : ByteArray) (n__5 n__6 : Int) (n__7 n__8 : Bool) (n__9 n__10 : Int) (n__11 n__12 : Bool) (nn : Nat) (nf : Nat → PV) (out : List PV) : Option PV := loopAt Tryz.prog cf ext hint k 51 [1, 1, 1, 0, 1, 0] ⟨([.top, .ptr 0 0, .top, .buf 1 0, .sc (.int .i64 i)] ++ tops 20 ([])), [.cells 29 [.sc (.int .i64 n_), .sc (.int .i64 n__1), .sc (.int .i64 n__2), .sc (.int .i64 n__3), .sc (.string n__4), .sc (.int .i64 n__5), .sc (.int .i64 n__6), .sc (.bool n__7), .sc (.bool n__8), .sc (.int .i64 n__9), .sc (.int .i64 n__10), .sc (.bool n__11), .sc (.bool n__12), .lst 14 nn nf], .buf 29 0 out], none⟩
theorem f51_eq (k : Nat) (n_ n__1 n__2 n__3 : Int) (n__4 : ByteArray) (n__5 n__6 : Int) (n__7 n__8 : Bool) (n__9 n__10 : Int) (n__11 n__12 : Bool) (nn : Nat) (nf : Nat → PV) : D 51 [.agg [.sc (.int .i64 n_), .sc (.int .i64 n__1), .sc (.int .i64 n__2), .sc (.int .i64 n__3), .sc (.string n__4), .sc (.int .i64 n__5), .sc (.int .i64 n__6), .sc (.bool n__7), .sc (.bool n__8), .sc (.int .i64 n__9), .sc (.int .i64 n__10), .sc (.bool n__11), .sc (.bool n__12), .lst 14 nn nf]] =
 if ([.agg [.sc (.int .i64 n_), .sc (.int .i64 n__1), .sc (.int .i64 n__2), .sc (.int .i64 n__3), .sc (.string n__4), .sc (.int .i64 n__5), .sc (.int .i64 n__6), .sc (.bool n__7), .sc (.bool n__8), .sc (.int .i64 n__9), .sc (.int .i64 n__10), .sc (.bool n__11), .sc (.bool n__12), .lst 14 nn nf]] : List PV).length * 120 ≤ 140737488355328 ∧ ([.agg [.sc (.int .i64 n_), .sc (.int .i64 n__1), .sc (.int .i64 n__2), .sc (.int .i64 n__3), .sc (.string n__4), .sc (.int .i64 n__5), .sc (.int .i64 n__6), .sc (.bool n__7), .sc (.bool n__8), .sc (.int .i64 n__9), .sc (.int .i64 n__10), .sc (.bool n__11), .sc (.bool n__12), .lst 14 nn nf]] : List PV).length ≤ 140737488355328 then
 f51.l0a k 0 n_ n__1 n__2 n__3 n__4 n__5 n__6 n__7 n__8 n__9 n__10 n__11 n__12 nn nf ([.agg [.sc (.int .i64 n_), .sc (.int .i64 n__1), .sc (.int .i64 n__2), .sc (.int .i64 n__3), .sc (.string n__4), .sc (.int .i64 n__5), .sc (.int .i64 n__6), .sc (.bool n__7), .sc (.bool n__8), .sc (.int .i64 n__9), .sc (.int .i64 n__10), .sc (.bool n__11), .sc (.bool n__12), .lst 14 nn nf]] : List PV)
 else none :=
 (denI_eq k _ _).trans (by kernel_rfl)
theorem f51.l0a_eq (k : Nat) (i n_ n__1 n__2 n__3 : Int) (n__4 : ByteArray) (n__5 n__6 : Int) (n__7 n__8 : Bool) (n__9 n__10 : Int) (n__11 n__12 : Bool) (nn : Nat) (nf : Nat → PV) (out : List PV) : f51.l0a k i n_ n__1 n__2 n__3 n__4 n__5 n__6 n__7 n__8 n__9 n__10 n__11 n__12 nn nf out =
 if decide (i < (nn : Int)) = true then
 if 0 ≤ i then
 if i < (nn : Int) then
 if hasSh (.agg [(.int .i64), (.int .i64), (.int .i64), (.int .i64), .str, (.int .i64), (.int .i64), .bool, .bool, (.int .i64), (.int .i64), .bool, .bool, (.lst 14)]) (nf i.toNat) = true then
 (D 51 [rbE (nf i.toNat)]).bind fun r1 => if hasSh (.lst 14) r1 = true then
 if (out.length + ((List.range r1.len).map r1.at).length) * 120 ≤ 140737488355328 ∧ out.length + ((List.range r1.len).map r1.at).length ≤ 140737488355328 then
 f51.l0a k (IntKind.i64.wrap (i + 1)) n_ n__1 n__2 n__3 n__4 n__5 n__6 n__7 n__8 n__9 n__10 n__11 n__12 nn nf (out ++ ((List.range r1.len).map r1.at))
 else none
 else none
 else none
 else none
 else none
 else
 some (frozen 14 out) :=
 (loopAt_eq _ _ _ _).trans (by kernel_rfl)
-- oculus/oculusref22.one
noncomputable def f60.l0a (k : Nat) (i n_ n__1 n__2 n__3 : Int) (n__4 : ByteArray) (n__5 n__6 : Int) (n__7 n__8 : Bool) (n__9 n__10 : Int) (n__11 n__12 : Bool) (nn : Nat) (nf : Nat → PV) (none_ none__1 : Int) (none__2 none__3 : Bool) : Option PV := loopAt Tryz.prog cf ext hint k 60 [1, 1, 1, 0, 1, 0, 1, 0, 0, 1, 0] ⟨([.top, .ptr 0 0, .top, .ptr 1 0, .top, .sc (.int .i64 i)] ++ tops 235 ([])), [.cells 29 [.sc (.int .i64 n_), .sc (.int .i64 n__1), .sc (.int .i64 n__2), .sc (.int .i64 n__3), .sc (.string n__4), .sc (.int .i64 n__5), .sc (.int .i64 n__6), .sc (.bool n__7), .sc (.bool n__8), .sc (.int .i64 n__9), .sc (.int .i64 n__10), .sc (.bool n__11), .sc (.bool n__12), .lst 14 nn nf], .cells 26 [.sc (.int .i64 none_), .sc (.int .i64 none__1), .sc (.bool none__2), .sc (.bool none__3)]], none⟩
noncomputable def f60.l1a (k : Nat) (i n_ n__1 n__2 n__3 : Int) (n__4 : ByteArray) (n__5 n__6 : Int) (n__7 n__8 : Bool) (n__9 n__10 : Int) (n__11 n__12 : Bool) (nn : Nat) (nf : Nat → PV) : Option PV := loopAt Tryz.prog cf ext hint k 60 [1, 1, 1, 0, 1, 0, 1, 1, 1, 1, 1, 1, 1, 1, 1, 1, 1, 1, 1, 0, 1, 0, 1, 0] ⟨([.top, .ptr 0 0] ++ tops 4 ([.sc (.int .i64 i)] ++ tops 234 ([]))), [.cells 29 [.sc (.int .i64 n_), .sc (.int .i64 n__1), .sc (.int .i64 n__2), .sc (.int .i64 n__3), .sc (.string n__4), .sc (.int .i64 n__5), .sc (.int .i64 n__6), .sc (.bool n__7), .sc (.bool n__8), .sc (.int .i64 n__9), .sc (.int .i64 n__10), .sc (.bool n__11), .sc (.bool n__12), .lst 14 nn nf]], none⟩
theorem f60_eq (k : Nat) (n_ n__1 n__2 n__3 : Int) (n__4 : ByteArray) (n__5 n__6 : Int) (n__7 n__8 : Bool) (n__9 n__10 : Int) (n__11 n__12 : Bool) (nn : Nat) (nf : Nat → PV) : D 60 [.agg [.sc (.int .i64 n_), .sc (.int .i64 n__1), .sc (.int .i64 n__2), .sc (.int .i64 n__3), .sc (.string n__4), .sc (.int .i64 n__5), .sc (.int .i64 n__6), .sc (.bool n__7), .sc (.bool n__8), .sc (.int .i64 n__9), .sc (.int .i64 n__10), .sc (.bool n__11), .sc (.bool n__12), .lst 14 nn nf]] =
 Option.bind (α := PV) (
 if ((n__2 == 0) && ((n__3 == 0) && ((n__4.toList == (⟨#[]⟩ : ByteArray).toList) && true))) = true then
 some (.sc (.bool ((n__5 == 0) && ((n__6 == 0) && ((n__7 == false) && ((n__8 == false) && true))))))
 else
 some (.sc (.bool false))) fun r1 =>
 Option.bind (α := PV) (
 if r1.toBool = true then
 some (.sc (.bool ((n__9 == 0) && ((n__10 == 0) && ((n__11 == false) && ((n__12 == false) && true))))))
 else
 some (.sc (.bool false))) fun r2 =>
 if (n_ == 1) = true then
 f60.l0a k 0 n_ n__1 n__2 n__3 n__4 n__5 n__6 n__7 n__8 n__9 n__10 n__11 n__12 nn nf 0 0 false false
 else
 if (n_ == 2) = true then
 Option.bind (α := PV) (
 if (n__1 == 0) = true then
 some (.sc (.bool r2.toBool))
 else
 some (.sc (.bool false))) fun r3 =>
 Option.bind (α := PV) (
 if r3.toBool = true then
 some (.sc (.bool ((nn : Int) == 0)))
 else
 some (.sc (.bool false))) fun r4 =>
 some (.sc (.bool r4.toBool))
 else
 if (n_ == 3) = true then
 Option.bind (α := PV) (
 if (n__1 == 0) = true then
 some (.sc (.bool ((n__2 == 0) && ((n__3 == 0) && ((n__4.toList == (⟨#[]⟩ : ByteArray).toList) && true)))))
 else
 some (.sc (.bool false))) fun r5 =>
 Option.bind (α := PV) (
 if r5.toBool = true then
 some (.sc (.bool ((n__9 == 0) && ((n__10 == 0) && ((n__11 == false) && ((n__12 == false) && true))))))
 else
 some (.sc (.bool false))) fun r6 =>
 Option.bind (α := PV) (
 if r6.toBool = true then
 some (.sc (.bool ((nn : Int) == 0)))
 else
 some (.sc (.bool false))) fun r7 =>
 Option.bind (α := PV) (
 if r7.toBool = true then
 Option.bind (α := PV) (
 Option.bind (α := PV) (
 (D 115 [.agg [.sc (.int .i64 n__5), .sc (.int .i64 n__6), .sc (.bool n__7), .sc (.bool n__8)]]).bind fun r8 => if hasSh .bool r8 = true then
 some (.sc (.bool r8.toBool))
 else none) fun r9 =>
 some (.sc (.bool r9.toBool))) fun r10 =>
 some (.sc (.bool r10.toBool))
 else
 some (.sc (.bool false))) fun r11 =>
 some (.sc (.bool r11.toBool))
 else
 if (n_ == 4) = true then
 Option.bind (α := PV) (
 if (n__1 == 0) = true then
 some (.sc (.bool ((n__2 == 0) && ((n__3 == 0) && ((n__4.toList == (⟨#[]⟩ : ByteArray).toList) && true)))))
 else
 some (.sc (.bool false))) fun r12 =>
 Option.bind (α := PV) (
 if r12.toBool = true then
 some (.sc (.bool ((nn : Int) == 0)))
 else
 some (.sc (.bool false))) fun r13 =>
 Option.bind (α := PV) (
 if r13.toBool = true then
 Option.bind (α := PV) (
 Option.bind (α := PV) (
 (D 115 [.agg [.sc (.int .i64 n__5), .sc (.int .i64 n__6), .sc (.bool n__7), .sc (.bool n__8)]]).bind fun r14 => if hasSh .bool r14 = true then
 some (.sc (.bool r14.toBool))
 else none) fun r15 =>
 some (.sc (.bool r15.toBool))) fun r16 =>
 some (.sc (.bool r16.toBool))
 else
 some (.sc (.bool false))) fun r17 =>
 Option.bind (α := PV) (
 if r17.toBool = true then
 Option.bind (α := PV) (
 Option.bind (α := PV) (
 (D 115 [.agg [.sc (.int .i64 n__9), .sc (.int .i64 n__10), .sc (.bool n__11), .sc (.bool n__12)]]).bind fun r18 => if hasSh .bool r18 = true then
 some (.sc (.bool r18.toBool))
 else none) fun r19 =>
 some (.sc (.bool r19.toBool))) fun r20 =>
 some (.sc (.bool r20.toBool))
 else
 some (.sc (.bool false))) fun r21 =>
 some (.sc (.bool r21.toBool))
 else
 if (n_ == 5) = true then
 Option.bind (α := PV) (
 if (n__1 == 0) = true then
 some (.sc (.bool r2.toBool))
 else
 some (.sc (.bool false))) fun r22 =>
 Option.bind (α := PV) (
 if r22.toBool = true then
 some (.sc (.bool ((nn : Int) == 1)))
 else
 some (.sc (.bool false))) fun r23 =>
 Option.bind (α := PV) (
 if r23.toBool = true then
 Option.bind (α := PV) (
 Option.bind (α := PV) (
 if 0 < (nn : Int) then
 if hasSh (.agg [(.int .i64), (.int .i64), (.int .i64), (.int .i64), .str, (.int .i64), (.int .i64), .bool, .bool, (.int .i64), (.int .i64), .bool, .bool, (.lst 14)]) (nf 0) = true then
 Option.bind (α := PV) (
 Option.bind (α := PV) (
 (D 116 [.sc (.int .u8 118), rbE (nf 0)]).bind fun r24 => if hasSh .bool r24 = true then
 some (.sc (.bool r24.toBool))
 else none) fun r25 =>
 some (.sc (.bool r25.toBool))) fun r26 =>
 some (.sc (.bool r26.toBool))
 else none
 else none) fun r27 =>
 some (.sc (.bool r27.toBool))) fun r28 =>
 some (.sc (.bool r28.toBool))
 else
 some (.sc (.bool false))) fun r29 =>
 some (.sc (.bool r29.toBool))
 else
 if (n_ == 6) = true then
 Option.bind (α := PV) (
 if decide (n__1 ≥ 1) = true then
 some (.sc (.bool (decide (n__1 ≤ 12))))
 else
 some (.sc (.bool false))) fun r30 =>
 Option.bind (α := PV) (
 if r30.toBool = true then
 some (.sc (.bool r2.toBool))
 else
 some (.sc (.bool false))) fun r31 =>
 Option.bind (α := PV) (
 if r31.toBool = true then
 some (.sc (.bool ((nn : Int) == 2)))
 else
 some (.sc (.bool false))) fun r32 =>
 Option.bind (α := PV) (
 if r32.toBool = true then
 Option.bind (α := PV) (
 Option.bind (α := PV) (
 if 0 < (nn : Int) then
 if hasSh (.agg [(.int .i64), (.int .i64), (.int .i64), (.int .i64), .str, (.int .i64), (.int .i64), .bool, .bool, (.int .i64), (.int .i64), .bool, .bool, (.lst 14)]) (nf 0) = true then
 Option.bind (α := PV) (
 Option.bind (α := PV) (
 (D 116 [.sc (.int .u8 118), rbE (nf 0)]).bind fun r33 => if hasSh .bool r33 = true then
 some (.sc (.bool r33.toBool))
 else none) fun r34 =>
 some (.sc (.bool r34.toBool))) fun r35 =>
 some (.sc (.bool r35.toBool))
 else none
 else none) fun r36 =>
 some (.sc (.bool r36.toBool))) fun r37 =>
 some (.sc (.bool r37.toBool))
 else
 some (.sc (.bool false))) fun r38 =>
 Option.bind (α := PV) (
 if r38.toBool = true then
 Option.bind (α := PV) (
 Option.bind (α := PV) (
 if 1 < (nn : Int) then
 if hasSh (.agg [(.int .i64), (.int .i64), (.int .i64), (.int .i64), .str, (.int .i64), (.int .i64), .bool, .bool, (.int .i64), (.int .i64), .bool, .bool, (.lst 14)]) (nf 1) = true then
 Option.bind (α := PV) (
 Option.bind (α := PV) (
 (D 116 [.sc (.int .u8 118), rbE (nf 1)]).bind fun r39 => if hasSh .bool r39 = true then
 some (.sc (.bool r39.toBool))
 else none) fun r40 =>
 some (.sc (.bool r40.toBool))) fun r41 =>
 some (.sc (.bool r41.toBool))
 else none
 else none) fun r42 =>
 some (.sc (.bool r42.toBool))) fun r43 =>
 some (.sc (.bool r43.toBool))
 else
 some (.sc (.bool false))) fun r44 =>
 some (.sc (.bool r44.toBool))
 else
 if (n_ == 7) = true then
 Option.bind (α := PV) (
 if (!r2.toBool) = true then
 some (.sc (.bool true))
 else
 Option.bind (α := PV) (
 Option.bind (α := PV) (
 Option.bind (α := PV) (
 Option.bind (α := PV) (
 Option.bind (α := PV) (
 (D 117 [.sc (.int .i64 n__1), .sc (.int .i64 (nn : Int))]).bind fun r45 => if hasSh .bool r45 = true then
 some (.sc (.bool (!r45.toBool)))
 else none) fun r46 =>
 some (.sc (.bool r46.toBool))) fun r47 =>
 some (.sc (.bool r47.toBool))) fun r48 =>
 some (.sc (.bool r48.toBool))) fun r49 =>
 some (.sc (.bool r49.toBool))) fun r50 =>
 some (.sc (.bool r50.toBool))) fun r51 =>
 if r51.toBool = true then
 some (.sc (.bool false))
 else
 f60.l1a k 0 n_ n__1 n__2 n__3 n__4 n__5 n__6 n__7 n__8 n__9 n__10 n__11 n__12 nn nf
 else
 some (.sc (.bool false)) :=
 (denI_eq k _ _).trans (by kernel_rfl)
theorem f60.l0a_eq (k : Nat) (i n_ n__1 n__2 n__3 : Int) (n__4 : ByteArray) (n__5 n__6 : Int) (n__7 n__8 : Bool) (n__9 n__10 : Int) (n__11 n__12 : Bool) (nn : Nat) (nf : Nat → PV) (none_ none__1 : Int) (none__2 none__3 : Bool) : f60.l0a k i n_ n__1 n__2 n__3 n__4 n__5 n__6 n__7 n__8 n__9 n__10 n__11 n__12 nn nf none_ none__1 none__2 none__3 =
 if decide (i < (n__4.size : Int)) = true then
 if 0 ≤ i then
 if i < (n__4.size : Int) then
 (D 113 [.sc (.int .u8 (bt n__4 i))]).bind fun r52 => if hasSh .bool r52 = true then
 if (!r52.toBool) = true then
 some (.sc (.bool false))
 else
 f60.l0a k (IntKind.i64.wrap (i + 1)) n_ n__1 n__2 n__3 n__4 n__5 n__6 n__7 n__8 n__9 n__10 n__11 n__12 nn nf none_ none__1 none__2 none__3
 else none
 else none
 else none
 else
 Option.bind (α := PV) (
 if (n__1 == 0) = true then
 some (.sc (.bool ((n__5 == none_) && ((n__6 == none__1) && ((n__7 == none__2) && ((n__8 == none__3) && true))))))
 else
 some (.sc (.bool false))) fun r53 =>
 Option.bind (α := PV) (
 if r53.toBool = true then
 some (.sc (.bool ((n__9 == none_) && ((n__10 == none__1) && ((n__11 == none__2) && ((n__12 == none__3) && true))))))
 else
 some (.sc (.bool false))) fun r54 =>
 Option.bind (α := PV) (
 if r54.toBool = true then
 some (.sc (.bool ((nn : Int) == 0)))
 else
 some (.sc (.bool false))) fun r55 =>
 Option.bind (α := PV) (
 if r55.toBool = true then
 some (.sc (.bool (decide (n__2 ≥ 1))))
 else
 some (.sc (.bool false))) fun r56 =>
 Option.bind (α := PV) (
 if r56.toBool = true then
 some (.sc (.bool (decide (n__2 ≤ 3))))
 else
 some (.sc (.bool false))) fun r57 =>
 Option.bind (α := PV) (
 if r57.toBool = true then
 some (.sc (.bool (decide (n__3 ≥ 0))))
 else
 some (.sc (.bool false))) fun r58 =>
 Option.bind (α := PV) (
 if r58.toBool = true then
 Option.bind (α := PV) (
 Option.bind (α := PV) (
 (D 114 [.agg [.sc (.int .i64 n__2), .sc (.int .i64 n__3), .sc (.string n__4)]]).bind fun r59 => if hasSh .bool r59 = true then
 some (.sc (.bool r59.toBool))
 else none) fun r60 =>
 some (.sc (.bool r60.toBool))) fun r61 =>
 some (.sc (.bool r61.toBool))
 else
 some (.sc (.bool false))) fun r62 =>
 some (.sc (.bool r62.toBool)) :=
 (loopAt_eq _ _ _ _).trans (by kernel_rfl)
theorem f60.l1a_eq (k : Nat) (i n_ n__1 n__2 n__3 : Int) (n__4 : ByteArray) (n__5 n__6 : Int) (n__7 n__8 : Bool) (n__9 n__10 : Int) (n__11 n__12 : Bool) (nn : Nat) (nf : Nat → PV) : f60.l1a k i n_ n__1 n__2 n__3 n__4 n__5 n__6 n__7 n__8 n__9 n__10 n__11 n__12 nn nf =
 if decide (i < (nn : Int)) = true then
 (D 118 [.sc (.int .i64 n__1), .sc (.int .i64 i)]).bind fun r63 => if hasSh (.int .u8) r63 = true then
 if 0 ≤ i then
 if i < (nn : Int) then
 if hasSh (.agg [(.int .i64), (.int .i64), (.int .i64), (.int .i64), .str, (.int .i64), (.int .i64), .bool, .bool, (.int .i64), (.int .i64), .bool, .bool, (.lst 14)]) (nf i.toNat) = true then
 (D 116 [.sc (.int .u8 r63.toInt), rbE (nf i.toNat)]).bind fun r64 => if hasSh .bool r64 = true then
 if (!r64.toBool) = true then
 some (.sc (.bool false))
 else
 f60.l1a k (IntKind.i64.wrap (i + 1)) n_ n__1 n__2 n__3 n__4 n__5 n__6 n__7 n__8 n__9 n__10 n__11 n__12 nn nf
 else none
 else none
 else none
 else none
 else none
 else
 some (.sc (.bool true)) :=
 (loopAt_eq _ _ _ _).trans (by kernel_rfl)
-- oculus/oculusref21.Plain
theorem f113_eq (k : Nat) (b : Int) : D 113 [.sc (.int .u8 b)] =
 Option.bind (α := PV) (
 if decide (b ≥ 32) = true then
 some (.sc (.bool (b != 127)))
 else
 some (.sc (.bool false))) fun r1 =>
 some (.sc (.bool r1.toBool)) :=
 (denI_eq k _ _).trans (by kernel_rfl)
-- oculus/oculusref12.May
theorem f114_eq (k : Nat) (v_ v__1 : Int) (v__2 : ByteArray) : D 114 [.agg [.sc (.int .i64 v_), .sc (.int .i64 v__1), .sc (.string v__2)]] =
 Option.bind (α := PV) (
 if (v_ == 0) = true then
 some (.sc (.bool (v__2.toList == (⟨#[]⟩ : ByteArray).toList)))
 else
 some (.sc (.bool false))) fun r1 =>
 Option.bind (α := PV) (
 if r1.toBool = true then
 some (.sc (.bool (v__1 == 0)))
 else
 some (.sc (.bool false))) fun r2 =>
 Option.bind (α := PV) (
 if r2.toBool = true then
 some (.sc (.bool true))
 else
 Option.bind (α := PV) (
 Option.bind (α := PV) (
 Option.bind (α := PV) (
 Option.bind (α := PV) (
 if (v_ == 1) = true then
 some (.sc (.bool (v__2.toList == (⟨#[]⟩ : ByteArray).toList)))
 else
 some (.sc (.bool false))) fun r3 =>
 Option.bind (α := PV) (
 Option.bind (α := PV) (
 if r3.toBool = true then
 Option.bind (α := PV) (
 Option.bind (α := PV) (
 (D 156 [.sc (.int .i64 v__1)]).bind fun r4 => if hasSh .bool r4 = true then
 some (.sc (.bool r4.toBool))
 else none) fun r5 =>
 some (.sc (.bool r5.toBool))) fun r6 =>
 some (.sc (.bool r6.toBool))
 else
 some (.sc (.bool false))) fun r7 =>
 some (.sc (.bool r7.toBool))) fun r8 =>
 some (.sc (.bool r8.toBool))) fun r9 =>
 some (.sc (.bool r9.toBool))) fun r10 =>
 some (.sc (.bool r10.toBool))) fun r11 =>
 some (.sc (.bool r11.toBool))) fun r12 =>
 Option.bind (α := PV) (
 if r12.toBool = true then
 some (.sc (.bool true))
 else
 Option.bind (α := PV) (
 Option.bind (α := PV) (
 Option.bind (α := PV) (
 Option.bind (α := PV) (
 if (v_ == 2) = true then
 some (.sc (.bool (v__1 == 0)))
 else
 some (.sc (.bool false))) fun r13 =>
 Option.bind (α := PV) (
 Option.bind (α := PV) (
 if r13.toBool = true then
 some (.sc (.bool (decide ((v__2.size : Int) ≤ 256))))
 else
 some (.sc (.bool false))) fun r14 =>
 some (.sc (.bool r14.toBool))) fun r15 =>
 some (.sc (.bool r15.toBool))) fun r16 =>
 some (.sc (.bool r16.toBool))) fun r17 =>
 some (.sc (.bool r17.toBool))) fun r18 =>
 some (.sc (.bool r18.toBool))) fun r19 =>
 Option.bind (α := PV) (
 if r19.toBool = true then
 some (.sc (.bool true))
 else
 Option.bind (α := PV) (
 Option.bind (α := PV) (
 Option.bind (α := PV) (
 Option.bind (α := PV) (
 if (v_ == 3) = true then
 some (.sc (.bool (v__2.toList == (⟨#[]⟩ : ByteArray).toList)))
 else
 some (.sc (.bool false))) fun r20 =>
 Option.bind (α := PV) (
 Option.bind (α := PV) (
 if r20.toBool = true then
 Option.bind (α := PV) (
 Option.bind (α := PV) (
 Option.bind (α := PV) (
 Option.bind (α := PV) (
 if (v__1 == 0) = true then
 some (.sc (.bool true))
 else
 some (.sc (.bool (v__1 == 1)))) fun r21 =>
 some (.sc (.bool r21.toBool))) fun r22 =>
 some (.sc (.bool r22.toBool))) fun r23 =>
 some (.sc (.bool r23.toBool))) fun r24 =>
 some (.sc (.bool r24.toBool))
 else
 some (.sc (.bool false))) fun r25 =>
 some (.sc (.bool r25.toBool))) fun r26 =>
 some (.sc (.bool r26.toBool))) fun r27 =>
 some (.sc (.bool r27.toBool))) fun r28 =>
 some (.sc (.bool r28.toBool))) fun r29 =>
 some (.sc (.bool r29.toBool))) fun r30 =>
 Option.bind (α := PV) (
 if r30.toBool = true then
 some (.sc (.bool true))
 else
 Option.bind (α := PV) (
 Option.bind (α := PV) (
 Option.bind (α := PV) (
 Option.bind (α := PV) (
 if (v_ == 4) = true then
 some (.sc (.bool (v__2.toList == (⟨#[]⟩ : ByteArray).toList)))
 else
 some (.sc (.bool false))) fun r31 =>
 Option.bind (α := PV) (
 Option.bind (α := PV) (
 if r31.toBool = true then
 some (.sc (.bool (decide (v__1 ≥ 1))))
 else
 some (.sc (.bool false))) fun r32 =>
 Option.bind (α := PV) (
 Option.bind (α := PV) (
 if r32.toBool = true then
 some (.sc (.bool (decide (v__1 ≤ 7))))
 else
 some (.sc (.bool false))) fun r33 =>
 some (.sc (.bool r33.toBool))) fun r34 =>
 some (.sc (.bool r34.toBool))) fun r35 =>
 some (.sc (.bool r35.toBool))) fun r36 =>
 some (.sc (.bool r36.toBool))) fun r37 =>
 some (.sc (.bool r37.toBool))) fun r38 =>
 some (.sc (.bool r38.toBool))) fun r39 =>
 some (.sc (.bool r39.toBool)) :=
 (denI_eq k _ _).trans (by kernel_rfl)
-- oculus/oculusref08.May
theorem f156_eq (k : Nat) (x_ : Int) : D 156 [.sc (.int .i64 x_)] =
 some (.sc (.bool (decide (x_ ≥ (-9223372036854775807))))) :=
 (denI_eq k _ _).trans (by kernel_rfl)
-- oculus/oculusref22.ref
theorem f115_eq (k : Nat) (r r_1 : Int) (r_2 r_3 : Bool) : D 115 [.agg [.sc (.int .i64 r), .sc (.int .i64 r_1), .sc (.bool r_2), .sc (.bool r_3)]] =
 (D 57 [.agg [.sc (.int .i64 r), .sc (.int .i64 r_1)]]).bind fun r1 => if hasSh .bool r1 = true then
 some (.sc (.bool r1.toBool))
 else none :=
 (denI_eq k _ _).trans (by kernel_rfl)
-- oculus/oculusref03.May
theorem f57_eq (k : Nat) (c c_1 : Int) : D 57 [.agg [.sc (.int .i64 c), .sc (.int .i64 c_1)]] =
 Option.bind (α := PV) (
 if decide (c ≥ 0) = true then
 some (.sc (.bool (decide (c ≤ 998))))
 else
 some (.sc (.bool false))) fun r1 =>
 Option.bind (α := PV) (
 if r1.toBool = true then
 some (.sc (.bool (decide (c_1 ≥ 0))))
 else
 some (.sc (.bool false))) fun r2 =>
 Option.bind (α := PV) (
 if r2.toBool = true then
 some (.sc (.bool (decide (c_1 ≤ 701))))
 else
 some (.sc (.bool false))) fun r3 =>
 some (.sc (.bool r3.toBool)) :=
 (denI_eq k _ _).trans (by kernel_rfl)
-- oculus/oculusref22.arg
theorem f116_eq (k : Nat) (kind n_ n__1 n__2 n__3 : Int) (n__4 : ByteArray) (n__5 n__6 : Int) (n__7 n__8 : Bool) (n__9 n__10 : Int) (n__11 n__12 : Bool) (nn : Nat) (nf : Nat → PV) : D 116 [.sc (.int .u8 kind), .agg [.sc (.int .i64 n_), .sc (.int .i64 n__1), .sc (.int .i64 n__2), .sc (.int .i64 n__3), .sc (.string n__4), .sc (.int .i64 n__5), .sc (.int .i64 n__6), .sc (.bool n__7), .sc (.bool n__8), .sc (.int .i64 n__9), .sc (.int .i64 n__10), .sc (.bool n__11), .sc (.bool n__12), .lst 14 nn nf]] =
 Option.bind (α := PV) (
 if (kind == 118) = true then
 some (.sc (.bool true))
 else
 some (.sc (.bool (kind == 101)))) fun r1 =>
 if r1.toBool = true then
 some (.sc (.bool (n_ != 4)))
 else
 Option.bind (α := PV) (
 if (kind == 114) = true then
 some (.sc (.bool true))
 else
 some (.sc (.bool (kind == 110)))) fun r2 =>
 if r2.toBool = true then
 Option.bind (α := PV) (
 if decide (n_ ≥ 2) = true then
 some (.sc (.bool (decide (n_ ≤ 4))))
 else
 some (.sc (.bool false))) fun r3 =>
 some (.sc (.bool r3.toBool))
 else
 if (kind == 116) = true then
 Option.bind (α := PV) (
 if (n_ == 1) = true then
 some (.sc (.bool (n__2 == 2)))
 else
 some (.sc (.bool false))) fun r4 =>
 Option.bind (α := PV) (
 if r4.toBool = true then
 Option.bind (α := PV) (
 Option.bind (α := PV) (
 Option.bind (α := PV) (
 (D 164 [.sc (.string n__4)]).bind fun r5 => if hasSh (.agg [(.int .i64), (.int .u64), .bool]) r5 = true then
 some (.sc (.bool ((cel 2 r5.cells).toBool)))
 else none) fun r6 =>
 some (.sc (.bool r6.toBool))) fun r7 =>
 some (.sc (.bool r7.toBool))) fun r8 =>
 some (.sc (.bool r8.toBool))
 else
 some (.sc (.bool false))) fun r9 =>
 some (.sc (.bool r9.toBool))
 else
 some (.sc (.bool (kind == 108))) :=
 (denI_eq k _ _).trans (by kernel_rfl)
-- oculus/oculusref02.Parse
noncomputable def f164.l0a (k : Nat) (t : ByteArray) (n_ c0 c0_1 : Int) (c0_2 : Bool) : Option PV := loopAt Tryz.prog cf ext hint k 164 [1, 1, 0, 1, 0] ⟨([.sc (.string t), .top, .ptr 0 0, .sc (.int .i64 n_)] ++ tops 55 ([])), [.cells 185 [.sc (.int .i64 c0), .sc (.int .u64 c0_1), .sc (.bool c0_2)]], none⟩
theorem f164_eq (k : Nat) (t : ByteArray) : D 164 [.sc (.string t)] =
 if (t.toList == (⟨#[116, 111, 112]⟩ : ByteArray).toList) = true then
 (D 196 []).bind fun r1 => if hasSh (.agg [(.int .i64), (.int .u64)]) r1 = true then
 some (.agg [.sc (.int .i64 ((cel 0 r1.cells).toInt)), .sc (.int .u64 ((cel 1 r1.cells).toInt)), .sc (.bool true)])
 else none
 else
 f164.l0a k t 0 0 0 false :=
 (denI_eq k _ _).trans (by kernel_rfl)
theorem f164.l0a_eq (k : Nat) (t : ByteArray) (n_ c0 c0_1 : Int) (c0_2 : Bool) : f164.l0a k t n_ c0 c0_1 c0_2 =
 if decide (n_ ≤ 15) = true then
 (D 59 [.sc (.int .i64 n_)]).bind fun r2 => if hasSh .str r2 = true then
 if (t.toList == r2.toStr.toList) = true then
 some (.agg [.sc (.int .i64 n_), .sc (.int .u64 0), .sc (.bool true)])
 else
 Option.bind (α := PV) (
 if decide ((t.size : Int) ≤ (r2.toStr.size : Int)) = true then
 some (.sc (.bool true))
 else
 Option.bind (α := PV) (
 Option.bind (α := PV) (
 Option.bind (α := PV) (
 Option.bind (α := PV) (
 if 0 ≤ IntKind.i64.wrap ((r2.toStr.size : Int) + 1) then
 if IntKind.i64.wrap ((r2.toStr.size : Int) + 1) ≤ (t.size : Int) then
 if 0 ≤ IntKind.i64.wrap ((r2.toStr.size : Int) + 1) then
 Option.bind (α := PV) (
 Option.bind (α := PV) (
 if r2.toStr.size + 1 ≤ 9223372036854775807 then
 some (.sc (.bool (!((t.extract 0 (IntKind.i64.wrap ((r2.toStr.size : Int) + 1)).toNat).toList == (r2.toStr ++ (⟨#[58]⟩ : ByteArray)).toList))))
 else none) fun r3 =>
 some (.sc (.bool r3.toBool))) fun r4 =>
 some (.sc (.bool r4.toBool))
 else none
 else none
 else none) fun r5 =>
 some (.sc (.bool r5.toBool))) fun r6 =>
 some (.sc (.bool r6.toBool))) fun r7 =>
 some (.sc (.bool r7.toBool))) fun r8 =>
 some (.sc (.bool r8.toBool))) fun r9 =>
 if r9.toBool = true then
 f164.l0a k t (IntKind.i64.wrap (n_ + 1)) c0 c0_1 c0_2
 else
 if 0 ≤ (t.size : Int) then
 if (t.size : Int) ≤ (t.size : Int) then
 if 0 ≤ IntKind.i64.wrap ((r2.toStr.size : Int) + 1) then
 if IntKind.i64.wrap ((r2.toStr.size : Int) + 1) ≤ (t.size : Int) then
 (D 197 [.sc (.string (t.extract (IntKind.i64.wrap ((r2.toStr.size : Int) + 1)).toNat (t.size : Int).toNat))]).bind fun r10 => if hasSh (.agg [(.int .u64), .bool]) r10 = true then
 Option.bind (α := PV) (
 if (cel 1 r10.cells).toBool = true then
 Option.bind (α := PV) (
 (D 198 [.agg [.sc (.int .i64 n_), .sc (.int .u64 ((cel 0 r10.cells).toInt))]]).bind fun r11 => if hasSh .str r11 = true then
 some (.sc (.bool (r11.toStr.toList == t.toList)))
 else none) fun r12 =>
 some (.sc (.bool r12.toBool))
 else
 some (.sc (.bool false))) fun r13 =>
 if r13.toBool = true then
 some (.agg [.sc (.int .i64 n_), .sc (.int .u64 ((cel 0 r10.cells).toInt)), .sc (.bool true)])
 else
 f164.l0a k t (IntKind.i64.wrap (n_ + 1)) c0 c0_1 c0_2
 else none
 else none
 else none
 else none
 else none
 else none
 else
 some (.agg [.sc (.int .i64 0), .sc (.int .u64 0), .sc (.bool false)]) :=
 (loopAt_eq _ _ _ _).trans (by kernel_rfl)
end ET
end Go.Den
