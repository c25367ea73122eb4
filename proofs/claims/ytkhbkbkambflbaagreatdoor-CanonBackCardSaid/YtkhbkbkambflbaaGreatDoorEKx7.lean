import Derived.Test.YtkhbkbkambflbaaGreatDoorEKh
import Derived.KernelRfl
set_option maxRecDepth 100000
set_option linter.unusedVariables false
namespace Go.Den
open Go Go.Proofs
namespace EK
-- oculus/oculusref22.Same
noncomputable def f16.l0a (k : Nat) (xn : Nat) (xf : Nat → PV) (yn : Nat) (yf : Nat → PV) (i : Int) : Option PV := loopAt Tryz.prog cf ext hint k 16 [1, 1, 1, 0, 1, 0] ⟨(tops 5 ([.lst 14 xn xf, .lst 14 yn yf, .sc (.int .i64 i)] ++ tops 93 ([]))), [], none⟩
theorem f16_eq (k : Nat) (a a_1 a_2 a_3 : Int) (a_4 : ByteArray) (a_5 a_6 : Int) (a_7 a_8 : Bool) (a_9 a_10 : Int) (a_11 a_12 : Bool) (an : Nat) (af : Nat → PV) (b b_1 b_2 b_3 : Int) (b_4 : ByteArray) (b_5 b_6 : Int) (b_7 b_8 : Bool) (b_9 b_10 : Int) (b_11 b_12 : Bool) (bn : Nat) (bf : Nat → PV) : D 16 [.agg [.sc (.int .i64 a), .sc (.int .i64 a_1), .sc (.int .i64 a_2), .sc (.int .i64 a_3), .sc (.string a_4), .sc (.int .i64 a_5), .sc (.int .i64 a_6), .sc (.bool a_7), .sc (.bool a_8), .sc (.int .i64 a_9), .sc (.int .i64 a_10), .sc (.bool a_11), .sc (.bool a_12), .lst 14 an af], .agg [.sc (.int .i64 b), .sc (.int .i64 b_1), .sc (.int .i64 b_2), .sc (.int .i64 b_3), .sc (.string b_4), .sc (.int .i64 b_5), .sc (.int .i64 b_6), .sc (.bool b_7), .sc (.bool b_8), .sc (.int .i64 b_9), .sc (.int .i64 b_10), .sc (.bool b_11), .sc (.bool b_12), .lst 14 bn bf]] =
 (D 51 [.agg [.sc (.int .i64 a), .sc (.int .i64 a_1), .sc (.int .i64 a_2), .sc (.int .i64 a_3), .sc (.string a_4), .sc (.int .i64 a_5), .sc (.int .i64 a_6), .sc (.bool a_7), .sc (.bool a_8), .sc (.int .i64 a_9), .sc (.int .i64 a_10), .sc (.bool a_11), .sc (.bool a_12), .lst 14 an af]]).bind fun r1 => if hasSh (.lst 14) r1 = true then
 (D 51 [.agg [.sc (.int .i64 b), .sc (.int .i64 b_1), .sc (.int .i64 b_2), .sc (.int .i64 b_3), .sc (.string b_4), .sc (.int .i64 b_5), .sc (.int .i64 b_6), .sc (.bool b_7), .sc (.bool b_8), .sc (.int .i64 b_9), .sc (.int .i64 b_10), .sc (.bool b_11), .sc (.bool b_12), .lst 14 bn bf]]).bind fun r2 => if hasSh (.lst 14) r2 = true then
 if ((r1.len : Int) != (r2.len : Int)) = true then
 some (.sc (.bool false))
 else
 f16.l0a k r1.len r1.at r2.len r2.at 0
 else none
 else none :=
 (denI_eq k _ _).trans (by kernel_rfl)
theorem f16.l0a_eq (k : Nat) (xn : Nat) (xf : Nat → PV) (yn : Nat) (yf : Nat → PV) (i : Int) : f16.l0a k xn xf yn yf i =
 if decide (i < (xn : Int)) = true then
 if 0 ≤ i then
 if i < (xn : Int) then
 if hasSh (.agg [(.int .i64), (.int .i64), (.int .i64), (.int .i64), .str, (.int .i64), (.int .i64), .bool, .bool, (.int .i64), (.int .i64), .bool, .bool, (.lst 14)]) (xf i.toNat) = true then
 if 0 ≤ i then
 if i < (yn : Int) then
 if hasSh (.agg [(.int .i64), (.int .i64), (.int .i64), (.int .i64), .str, (.int .i64), (.int .i64), .bool, .bool, (.int .i64), (.int .i64), .bool, .bool, (.lst 14)]) (yf i.toNat) = true then
 Option.bind (α := PV) (
 if (((cel 0 (xf i.toNat).cells).toInt) != ((cel 0 (yf i.toNat).cells).toInt)) = true then
 some (.sc (.bool true))
 else
 Option.bind (α := PV) (
 Option.bind (α := PV) (
 if 0 ≤ i then
 if i < (xn : Int) then
 if hasSh (.agg [(.int .i64), (.int .i64), (.int .i64), (.int .i64), .str, (.int .i64), (.int .i64), .bool, .bool, (.int .i64), (.int .i64), .bool, .bool, (.lst 14)]) (xf i.toNat) = true then
 Option.bind (α := PV) (
 Option.bind (α := PV) (
 Option.bind (α := PV) (
 Option.bind (α := PV) (
 Option.bind (α := PV) (
 if 0 ≤ i then
 if i < (yn : Int) then
 if hasSh (.agg [(.int .i64), (.int .i64), (.int .i64), (.int .i64), .str, (.int .i64), (.int .i64), .bool, .bool, (.int .i64), (.int .i64), .bool, .bool, (.lst 14)]) (yf i.toNat) = true then
 some (.sc (.bool (((cel 1 (xf i.toNat).cells).toInt) != ((cel 1 (yf i.toNat).cells).toInt))))
 else none
 else none
 else none) fun r3 =>
 some (.sc (.bool r3.toBool))) fun r4 =>
 some (.sc (.bool r4.toBool))) fun r5 =>
 some (.sc (.bool r5.toBool))) fun r6 =>
 some (.sc (.bool r6.toBool))) fun r7 =>
 some (.sc (.bool r7.toBool))
 else none
 else none
 else none) fun r8 =>
 some (.sc (.bool r8.toBool))) fun r9 =>
 some (.sc (.bool r9.toBool))) fun r10 =>
 Option.bind (α := PV) (
 if r10.toBool = true then
 some (.sc (.bool true))
 else
 Option.bind (α := PV) (
 Option.bind (α := PV) (
 if 0 ≤ i then
 if i < (xn : Int) then
 if hasSh (.agg [(.int .i64), (.int .i64), (.int .i64), (.int .i64), .str, (.int .i64), (.int .i64), .bool, .bool, (.int .i64), (.int .i64), .bool, .bool, (.lst 14)]) (xf i.toNat) = true then
 Option.bind (α := PV) (
 Option.bind (α := PV) (
 Option.bind (α := PV) (
 Option.bind (α := PV) (
 Option.bind (α := PV) (
 if 0 ≤ i then
 if i < (yn : Int) then
 if hasSh (.agg [(.int .i64), (.int .i64), (.int .i64), (.int .i64), .str, (.int .i64), (.int .i64), .bool, .bool, (.int .i64), (.int .i64), .bool, .bool, (.lst 14)]) (yf i.toNat) = true then
 some (.sc (.bool (!((((cel 2 (xf i.toNat).cells).toInt) == ((cel 2 (yf i.toNat).cells).toInt)) && ((((cel 3 (xf i.toNat).cells).toInt) == ((cel 3 (yf i.toNat).cells).toInt)) && ((((cel 4 (xf i.toNat).cells).toStr).toList == ((cel 4 (yf i.toNat).cells).toStr).toList) && true))))))
 else none
 else none
 else none) fun r11 =>
 some (.sc (.bool r11.toBool))) fun r12 =>
 some (.sc (.bool r12.toBool))) fun r13 =>
 some (.sc (.bool r13.toBool))) fun r14 =>
 some (.sc (.bool r14.toBool))) fun r15 =>
 some (.sc (.bool r15.toBool))
 else none
 else none
 else none) fun r16 =>
 some (.sc (.bool r16.toBool))) fun r17 =>
 some (.sc (.bool r17.toBool))) fun r18 =>
 Option.bind (α := PV) (
 if r18.toBool = true then
 some (.sc (.bool true))
 else
 Option.bind (α := PV) (
 Option.bind (α := PV) (
 if 0 ≤ i then
 if i < (xn : Int) then
 if hasSh (.agg [(.int .i64), (.int .i64), (.int .i64), (.int .i64), .str, (.int .i64), (.int .i64), .bool, .bool, (.int .i64), (.int .i64), .bool, .bool, (.lst 14)]) (xf i.toNat) = true then
 Option.bind (α := PV) (
 Option.bind (α := PV) (
 Option.bind (α := PV) (
 Option.bind (α := PV) (
 Option.bind (α := PV) (
 if 0 ≤ i then
 if i < (yn : Int) then
 if hasSh (.agg [(.int .i64), (.int .i64), (.int .i64), (.int .i64), .str, (.int .i64), (.int .i64), .bool, .bool, (.int .i64), (.int .i64), .bool, .bool, (.lst 14)]) (yf i.toNat) = true then
 some (.sc (.bool (!((((cel 5 (xf i.toNat).cells).toInt) == ((cel 5 (yf i.toNat).cells).toInt)) && ((((cel 6 (xf i.toNat).cells).toInt) == ((cel 6 (yf i.toNat).cells).toInt)) && ((((cel 7 (xf i.toNat).cells).toBool) == ((cel 7 (yf i.toNat).cells).toBool)) && ((((cel 8 (xf i.toNat).cells).toBool) == ((cel 8 (yf i.toNat).cells).toBool)) && true)))))))
 else none
 else none
 else none) fun r19 =>
 some (.sc (.bool r19.toBool))) fun r20 =>
 some (.sc (.bool r20.toBool))) fun r21 =>
 some (.sc (.bool r21.toBool))) fun r22 =>
 some (.sc (.bool r22.toBool))) fun r23 =>
 some (.sc (.bool r23.toBool))
 else none
 else none
 else none) fun r24 =>
 some (.sc (.bool r24.toBool))) fun r25 =>
 some (.sc (.bool r25.toBool))) fun r26 =>
 Option.bind (α := PV) (
 if r26.toBool = true then
 some (.sc (.bool true))
 else
 Option.bind (α := PV) (
 Option.bind (α := PV) (
 if 0 ≤ i then
 if i < (xn : Int) then
 if hasSh (.agg [(.int .i64), (.int .i64), (.int .i64), (.int .i64), .str, (.int .i64), (.int .i64), .bool, .bool, (.int .i64), (.int .i64), .bool, .bool, (.lst 14)]) (xf i.toNat) = true then
 Option.bind (α := PV) (
 Option.bind (α := PV) (
 Option.bind (α := PV) (
 Option.bind (α := PV) (
 Option.bind (α := PV) (
 if 0 ≤ i then
 if i < (yn : Int) then
 if hasSh (.agg [(.int .i64), (.int .i64), (.int .i64), (.int .i64), .str, (.int .i64), (.int .i64), .bool, .bool, (.int .i64), (.int .i64), .bool, .bool, (.lst 14)]) (yf i.toNat) = true then
 some (.sc (.bool (!((((cel 9 (xf i.toNat).cells).toInt) == ((cel 9 (yf i.toNat).cells).toInt)) && ((((cel 10 (xf i.toNat).cells).toInt) == ((cel 10 (yf i.toNat).cells).toInt)) && ((((cel 11 (xf i.toNat).cells).toBool) == ((cel 11 (yf i.toNat).cells).toBool)) && ((((cel 12 (xf i.toNat).cells).toBool) == ((cel 12 (yf i.toNat).cells).toBool)) && true)))))))
 else none
 else none
 else none) fun r27 =>
 some (.sc (.bool r27.toBool))) fun r28 =>
 some (.sc (.bool r28.toBool))) fun r29 =>
 some (.sc (.bool r29.toBool))) fun r30 =>
 some (.sc (.bool r30.toBool))) fun r31 =>
 some (.sc (.bool r31.toBool))
 else none
 else none
 else none) fun r32 =>
 some (.sc (.bool r32.toBool))) fun r33 =>
 some (.sc (.bool r33.toBool))) fun r34 =>
 Option.bind (α := PV) (
 if r34.toBool = true then
 some (.sc (.bool true))
 else
 Option.bind (α := PV) (
 Option.bind (α := PV) (
 if 0 ≤ i then
 if i < (xn : Int) then
 if hasSh (.agg [(.int .i64), (.int .i64), (.int .i64), (.int .i64), .str, (.int .i64), (.int .i64), .bool, .bool, (.int .i64), (.int .i64), .bool, .bool, (.lst 14)]) (xf i.toNat) = true then
 Option.bind (α := PV) (
 Option.bind (α := PV) (
 Option.bind (α := PV) (
 Option.bind (α := PV) (
 Option.bind (α := PV) (
 Option.bind (α := PV) (
 if 0 ≤ i then
 if i < (yn : Int) then
 if hasSh (.agg [(.int .i64), (.int .i64), (.int .i64), (.int .i64), .str, (.int .i64), (.int .i64), .bool, .bool, (.int .i64), (.int .i64), .bool, .bool, (.lst 14)]) (yf i.toNat) = true then
 some (.sc (.bool (((cel 13 (xf i.toNat).cells).len : Int) != ((cel 13 (yf i.toNat).cells).len : Int))))
 else none
 else none
 else none) fun r35 =>
 some (.sc (.bool r35.toBool))) fun r36 =>
 some (.sc (.bool r36.toBool))) fun r37 =>
 some (.sc (.bool r37.toBool))) fun r38 =>
 some (.sc (.bool r38.toBool))) fun r39 =>
 some (.sc (.bool r39.toBool))) fun r40 =>
 some (.sc (.bool r40.toBool))
 else none
 else none
 else none) fun r41 =>
 some (.sc (.bool r41.toBool))) fun r42 =>
 some (.sc (.bool r42.toBool))) fun r43 =>
 if r43.toBool = true then
 some (.sc (.bool false))
 else
 f16.l0a k xn xf yn yf (IntKind.i64.wrap (i + 1))
 else none
 else none
 else none
 else none
 else none
 else none
 else
 some (.sc (.bool true)) :=
 (loopAt_eq _ _ _ _).trans (by kernel_rfl)
-- oculus/oculusref22.List
noncomputable def f51.l0a (k : Nat) (i n_ n__1 n__2 n__3 : Int) (n__4 : ByteArray) (n__5 n__6 : Int) (n__7 n__8 : Bool) (n__9 n__10 : Int) (n__11 n__12 : Bool) (nn : Nat) (nf : Nat → PV) (out : List PV) : Option PV := loopAt Tryz.prog cf ext hint k 51 [1, 1, 1, 0, 1, 0] ⟨([.top, .ptr 0 0, .top, .buf 1 0, .sc (.int .i64 i)] ++ tops 20 ([])), [.cells 29 [.sc (.int .i64 n_), .sc (.int .i64 n__1), .sc (.int .i64 n__2), .sc (.int .i64 n__3), .sc (.string n__4), .sc (.int .i64 n__5), .sc (.int .i64 n__6), .sc (.bool n__7), .sc (.bool n__8), .sc (.int .i64 n__9), .sc (.int .i64 n__10), .sc (.bool n__11), .sc (.bool n__12), .lst 14 nn nf], .buf 29 0 out], none⟩
theorem f51_eq (k : Nat) (n_ n__1 n__2 n__3 : Int) (n__4 : ByteArray) (n__5 n__6 : Int) (n__7 n__8 : Bool) (n__9 n__10 : Int) (n__11 n__12 : Bool) (nn : Nat) (nf : Nat → PV) : D 51 [.agg [.sc (.int .i64 n_), .sc (.int .i64 n__1), .sc (.int .i64 n__2), .sc (.int .i64 n__3), .sc (.string n__4), .sc (.int .i64 n__5), .sc (.int .i64 n__6), .sc (.bool n__7), .sc (.bool n__8), .sc (.int .i64 n__9), .sc (.int .i64 n__10), .sc (.bool n__11), .sc (.bool n__12), .lst 14 nn nf]] =
 if ([.agg [.sc (.int .i64 n_), .sc (.int .i64 n__1), .sc (.int .i64 n__2), .sc (.int .i64 n__3), .sc (.string n__4), .sc (.int .i64 n__5), .sc (.int .i64 n__6), .sc (.bool n__7), .sc (.bool n__8), .sc (.int .i64 n__9), .sc (.int .i64 n__10), .sc (.bool n__11), .sc (.bool n__12), .lst 14 nn nf]] : List PV).length * 120 ≤ 140737488355328 ∧ ([.agg [.sc (.int .i64 n_), .sc (.int .i64 n__1), .sc (.int .i64 n__2), .sc (.int .i64 n__3), .sc (.string n__4), .sc (.int .i64 n__5), .sc (.int .i64 n__6), .sc (.bool n__7), .sc (.bool n__8), .sc (.int .i64 n__9), .sc (.int .i64 n__10), .sc (.bool n__11), .sc (.bool n__12), .lst 14 nn nf]] : List PV).length ≤ 140737488355328 then
 f51.l0a k 0 n_ n__1 n__2 n__3 n__4 n__5 n__6 n__7 n__8 n__9 n__10 n__11 n__12 nn nf ([.agg [.sc (.int .i64 n_), .sc (.int .i64 n__1), .sc (.int .i64 n__2), .sc (.int .i64 n__3), .sc (.string n__4), .sc (.int .i64 n__5), .sc (.int .i64 n__6), .sc (.bool n__7), .sc (.bool n__8), .sc (.int .i64 n__9), .sc (.int .i64 n__10), .sc (.bool n__11), .sc (.bool n__12), .lst 14 nn nf]] : List PV)
 else none :=
 (denI_eq k _ _).trans (by kernel_rfl)
theorem f51.l0a_eq (k : Nat) (i n_ n__1 n__2 n__3 : Int) (n__4 : ByteArray) (n__5 n__6 : Int) (n__7 n__8 : Bool) (n__9 n__10 : Int) (n__11 n__12 : Bool) (nn : Nat) (nf : Nat → PV) (out : List PV) : f51.l0a k i n_ n__1 n__2 n__3 n__4 n__5 n__6 n__7 n__8 n__9 n__10 n__11 n__12 nn nf out =
 if decide (i < (nn : Int)) = true then
 if 0 ≤ i then
 if i < (nn : Int) then
 if hasSh (.agg [(.int .i64), (.int .i64), (.int .i64), (.int .i64), .str, (.int .i64), (.int .i64), .bool, .bool, (.int .i64), (.int .i64), .bool, .bool, (.lst 14)]) (nf i.toNat) = true then
 (D 51 [rbE (nf i.toNat)]).bind fun r1 => if hasSh (.lst 14) r1 = true then
 if (out.length + ((List.range r1.len).map r1.at).length) * 120 ≤ 140737488355328 ∧ out.length + ((List.range r1.len).map r1.at).length ≤ 140737488355328 then
 f51.l0a k (IntKind.i64.wrap (i + 1)) n_ n__1 n__2 n__3 n__4 n__5 n__6 n__7 n__8 n__9 n__10 n__11 n__12 nn nf (out ++ ((List.range r1.len).map r1.at))
 else none
 else none
 else none
 else none
 else none
 else
 some (frozen 14 out) :=
 (loopAt_eq _ _ _ _).trans (by kernel_rfl)
-- oculus/oculusref22.Formula
theorem f19_eq (k : Nat) (n_ n__1 n__2 n__3 : Int) (n__4 : ByteArray) (n__5 n__6 : Int) (n__7 n__8 : Bool) (n__9 n__10 : Int) (n__11 n__12 : Bool) (nn : Nat) (nf : Nat → PV) : D 19 [.agg [.sc (.int .i64 n_), .sc (.int .i64 n__1), .sc (.int .i64 n__2), .sc (.int .i64 n__3), .sc (.string n__4), .sc (.int .i64 n__5), .sc (.int .i64 n__6), .sc (.bool n__7), .sc (.bool n__8), .sc (.int .i64 n__9), .sc (.int .i64 n__10), .sc (.bool n__11), .sc (.bool n__12), .lst 14 nn nf]] =
 Option.bind (α := PV) (
 if (n_ != 4) = true then
 Option.bind (α := PV) (
 (D 17 [.agg [.sc (.int .i64 n_), .sc (.int .i64 n__1), .sc (.int .i64 n__2), .sc (.int .i64 n__3), .sc (.string n__4), .sc (.int .i64 n__5), .sc (.int .i64 n__6), .sc (.bool n__7), .sc (.bool n__8), .sc (.int .i64 n__9), .sc (.int .i64 n__10), .sc (.bool n__11), .sc (.bool n__12), .lst 14 nn nf]]).bind fun r1 => if hasSh (.int .i64) r1 = true then
 some (.sc (.bool (decide (r1.toInt ≤ 12))))
 else none) fun r2 =>
 some (.sc (.bool r2.toBool))
 else
 some (.sc (.bool false))) fun r3 =>
 Option.bind (α := PV) (
 if r3.toBool = true then
 Option.bind (α := PV) (
 (D 26 [.agg [.sc (.int .i64 n_), .sc (.int .i64 n__1), .sc (.int .i64 n__2), .sc (.int .i64 n__3), .sc (.string n__4), .sc (.int .i64 n__5), .sc (.int .i64 n__6), .sc (.bool n__7), .sc (.bool n__8), .sc (.int .i64 n__9), .sc (.int .i64 n__10), .sc (.bool n__11), .sc (.bool n__12), .lst 14 nn nf]]).bind fun r4 => if hasSh .bool r4 = true then
 some (.sc (.bool r4.toBool))
 else none) fun r5 =>
 some (.sc (.bool r5.toBool))
 else
 some (.sc (.bool false))) fun r6 =>
 some (.sc (.bool r6.toBool)) :=
 (denI_eq k _ _).trans (by kernel_rfl)
-- oculus/oculusref22.Deep
noncomputable def f17.l0a (k : Nat) (out i n_ n__1 n__2 n__3 : Int) (n__4 : ByteArray) (n__5 n__6 : Int) (n__7 n__8 : Bool) (n__9 n__10 : Int) (n__11 n__12 : Bool) (nn : Nat) (nf : Nat → PV) : Option PV := loopAt Tryz.prog cf ext hint k 17 [1, 1, 0, 1, 0] ⟨([.top, .ptr 0 0, .top, .sc (.int .i64 out), .sc (.int .i64 i)] ++ tops 20 ([])), [.cells 29 [.sc (.int .i64 n_), .sc (.int .i64 n__1), .sc (.int .i64 n__2), .sc (.int .i64 n__3), .sc (.string n__4), .sc (.int .i64 n__5), .sc (.int .i64 n__6), .sc (.bool n__7), .sc (.bool n__8), .sc (.int .i64 n__9), .sc (.int .i64 n__10), .sc (.bool n__11), .sc (.bool n__12), .lst 14 nn nf]], none⟩
theorem f17_eq (k : Nat) (n_ n__1 n__2 n__3 : Int) (n__4 : ByteArray) (n__5 n__6 : Int) (n__7 n__8 : Bool) (n__9 n__10 : Int) (n__11 n__12 : Bool) (nn : Nat) (nf : Nat → PV) : D 17 [.agg [.sc (.int .i64 n_), .sc (.int .i64 n__1), .sc (.int .i64 n__2), .sc (.int .i64 n__3), .sc (.string n__4), .sc (.int .i64 n__5), .sc (.int .i64 n__6), .sc (.bool n__7), .sc (.bool n__8), .sc (.int .i64 n__9), .sc (.int .i64 n__10), .sc (.bool n__11), .sc (.bool n__12), .lst 14 nn nf]] =
 f17.l0a k 1 0 n_ n__1 n__2 n__3 n__4 n__5 n__6 n__7 n__8 n__9 n__10 n__11 n__12 nn nf :=
 (denI_eq k _ _).trans (by kernel_rfl)
theorem f17.l0a_eq (k : Nat) (out i n_ n__1 n__2 n__3 : Int) (n__4 : ByteArray) (n__5 n__6 : Int) (n__7 n__8 : Bool) (n__9 n__10 : Int) (n__11 n__12 : Bool) (nn : Nat) (nf : Nat → PV) : f17.l0a k out i n_ n__1 n__2 n__3 n__4 n__5 n__6 n__7 n__8 n__9 n__10 n__11 n__12 nn nf =
 if decide (i < (nn : Int)) = true then
 if 0 ≤ i then
 if i < (nn : Int) then
 if hasSh (.agg [(.int .i64), (.int .i64), (.int .i64), (.int .i64), .str, (.int .i64), (.int .i64), .bool, .bool, (.int .i64), (.int .i64), .bool, .bool, (.lst 14)]) (nf i.toNat) = true then
 (D 17 [rbE (nf i.toNat)]).bind fun r1 => if hasSh (.int .i64) r1 = true then
 if decide ((IntKind.i64.wrap (r1.toInt + 1)) > out) = true then
 f17.l0a k (IntKind.i64.wrap (r1.toInt + 1)) (IntKind.i64.wrap (i + 1)) n_ n__1 n__2 n__3 n__4 n__5 n__6 n__7 n__8 n__9 n__10 n__11 n__12 nn nf
 else
 f17.l0a k out (IntKind.i64.wrap (i + 1)) n_ n__1 n__2 n__3 n__4 n__5 n__6 n__7 n__8 n__9 n__10 n__11 n__12 nn nf
 else none
 else none
 else none
 else none
 else
 some (.sc (.int .i64 out)) :=
 (loopAt_eq _ _ _ _).trans (by kernel_rfl)
-- oculus/oculusref22.Right
noncomputable def f26.l0a (k : Nat) (ln : Nat) (lf : Nat → PV) (i : Int) : Option PV := loopAt Tryz.prog cf ext hint k 26 [1, 1, 0, 1, 0] ⟨([.top, .top, .top, .lst 14 ln lf, .sc (.int .i64 i)] ++ tops 14 ([])), [], none⟩
theorem f26_eq (k : Nat) (n_ n__1 n__2 n__3 : Int) (n__4 : ByteArray) (n__5 n__6 : Int) (n__7 n__8 : Bool) (n__9 n__10 : Int) (n__11 n__12 : Bool) (nn : Nat) (nf : Nat → PV) : D 26 [.agg [.sc (.int .i64 n_), .sc (.int .i64 n__1), .sc (.int .i64 n__2), .sc (.int .i64 n__3), .sc (.string n__4), .sc (.int .i64 n__5), .sc (.int .i64 n__6), .sc (.bool n__7), .sc (.bool n__8), .sc (.int .i64 n__9), .sc (.int .i64 n__10), .sc (.bool n__11), .sc (.bool n__12), .lst 14 nn nf]] =
 (D 51 [.agg [.sc (.int .i64 n_), .sc (.int .i64 n__1), .sc (.int .i64 n__2), .sc (.int .i64 n__3), .sc (.string n__4), .sc (.int .i64 n__5), .sc (.int .i64 n__6), .sc (.bool n__7), .sc (.bool n__8), .sc (.int .i64 n__9), .sc (.int .i64 n__10), .sc (.bool n__11), .sc (.bool n__12), .lst 14 nn nf]]).bind fun r1 => if hasSh (.lst 14) r1 = true then
 f26.l0a k r1.len r1.at 0
 else none :=
 (denI_eq k _ _).trans (by kernel_rfl)
theorem f26.l0a_eq (k : Nat) (ln : Nat) (lf : Nat → PV) (i : Int) : f26.l0a k ln lf i =
 if decide (i < (ln : Int)) = true then
 if 0 ≤ i then
 if i < (ln : Int) then
 if hasSh (.agg [(.int .i64), (.int .i64), (.int .i64), (.int .i64), .str, (.int .i64), (.int .i64), .bool, .bool, (.int .i64), (.int .i64), .bool, .bool, (.lst 14)]) (lf i.toNat) = true then
 (D 60 [rbE (lf i.toNat)]).bind fun r2 => if hasSh .bool r2 = true then
 if (!r2.toBool) = true then
 some (.sc (.bool false))
 else
 f26.l0a k ln lf (IntKind.i64.wrap (i + 1))
 else none
 else none
 else none
 else none
 else
 some (.sc (.bool true)) :=
 (loopAt_eq _ _ _ _).trans (by kernel_rfl)
end EK
end Go.Den
