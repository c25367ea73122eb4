import Derived.Test.YtkhbkbkambflbaaGreatDoorETh
import Derived.KernelRfl
set_option maxRecDepth 100000
set_option linter.unusedVariables false
namespace Go.Den
open Go Go.Proofs
namespace ET
-- oculus/node.literal
noncomputable def f82.j0a (k : Nat) (v_ v__1 : Int) (v__2 : ByteArray) : Option PV := gateK k (placeAt Tryz.prog cf ext hint k 82 [1, 0, 1, 0, 1]) ⟨([.top, .ptr 0 0] ++ tops 21 ([])), [.cells 24 [.sc (.int .i64 v_), .sc (.int .i64 v__1), .sc (.string v__2)]], none⟩
theorem f82_eq (k : Nat) (v_ v__1 : Int) (v__2 : ByteArray) : D 82 [.agg [.sc (.int .i64 v_), .sc (.int .i64 v__1), .sc (.string v__2)]] =
 if (v_ == 2) = true then
 (D 135 [.agg [.sc (.int .i64 v_), .sc (.int .i64 v__1), .sc (.string v__2)]]).bind fun r1 => if hasSh .bool r1 = true then
 Option.bind (α := PV) (
 if r1.toBool = true then
 Option.bind (α := PV) (
 Option.bind (α := PV) (
 (D 136 [.sc (.string v__2)]).bind fun r2 => if hasSh .bool r2 = true then
 some (.sc (.bool r2.toBool))
 else none) fun r3 =>
 some (.sc (.bool r3.toBool))) fun r4 =>
 some (.sc (.bool r4.toBool))
 else
 some (.sc (.bool false))) fun r5 =>
 some (.sc (.bool r5.toBool))
 else none
 else
 if (v_ == 1) = true then
 if decide (v__1 < 0) = true then
 some (.sc (.bool false))
 else
 f82.j0a k v_ v__1 v__2
 else
 if (v_ == 3) = true then
 f82.j0a k v_ v__1 v__2
 else
 some (.sc (.bool false)) :=
 (denI_eq k _ _).trans (by kernel_rfl)
theorem f82.j0a_eq (k : Nat) (v_ v__1 : Int) (v__2 : ByteArray) : f82.j0a k v_ v__1 v__2 =
 (D 135 [.agg [.sc (.int .i64 v_), .sc (.int .i64 v__1), .sc (.string v__2)]]).bind fun r6 => if hasSh .bool r6 = true then
 some (.sc (.bool r6.toBool))
 else none :=
 (gateK_open _ _ _).trans (by kernel_rfl)
-- oculus/value.May
theorem f135_eq (k : Nat) (v_ v__1 : Int) (v__2 : ByteArray) : D 135 [.agg [.sc (.int .i64 v_), .sc (.int .i64 v__1), .sc (.string v__2)]] =
 if (v_ == 0) = true then
 Option.bind (α := PV) (
 if (v__1 == 0) = true then
 some (.sc (.bool (v__2.toList == (⟨#[]⟩ : ByteArray).toList)))
 else
 some (.sc (.bool false))) fun r1 =>
 some (.sc (.bool r1.toBool))
 else
 if (v_ == 1) = true then
 (D 148 [.sc (.int .i64 v__1)]).bind fun r2 => if hasSh .bool r2 = true then
 Option.bind (α := PV) (
 if r2.toBool = true then
 some (.sc (.bool (v__2.toList == (⟨#[]⟩ : ByteArray).toList)))
 else
 some (.sc (.bool false))) fun r3 =>
 some (.sc (.bool r3.toBool))
 else none
 else
 if (v_ == 2) = true then
 Option.bind (α := PV) (
 if (v__1 == 0) = true then
 some (.sc (.bool (decide ((v__2.size : Int) ≤ 256))))
 else
 some (.sc (.bool false))) fun r4 =>
 some (.sc (.bool r4.toBool))
 else
 if (v_ == 3) = true then
 Option.bind (α := PV) (
 if (v__1 == 0) = true then
 some (.sc (.bool true))
 else
 some (.sc (.bool (v__1 == 1)))) fun r5 =>
 Option.bind (α := PV) (
 if r5.toBool = true then
 some (.sc (.bool (v__2.toList == (⟨#[]⟩ : ByteArray).toList)))
 else
 some (.sc (.bool false))) fun r6 =>
 some (.sc (.bool r6.toBool))
 else
 if (v_ == 4) = true then
 Option.bind (α := PV) (
 if decide (v__1 ≥ 1) = true then
 some (.sc (.bool (decide (v__1 ≤ 7))))
 else
 some (.sc (.bool false))) fun r7 =>
 Option.bind (α := PV) (
 if r7.toBool = true then
 some (.sc (.bool (v__2.toList == (⟨#[]⟩ : ByteArray).toList)))
 else
 some (.sc (.bool false))) fun r8 =>
 some (.sc (.bool r8.toBool))
 else
 some (.sc (.bool false)) :=
 (denI_eq k _ _).trans (by kernel_rfl)
-- oculus/lex.Plain
noncomputable def f136.l0a (k : Nat) (t : ByteArray) (t5 t6 : Int) : Option PV := loopAt Tryz.prog cf ext hint k 136 [1, 0, 1, 0] ⟨([.sc (.string t)] ++ tops 4 ([.sc (.int .i64 t5), .sc (.int .i64 t6)] ++ tops 8 ([]))), [], none⟩
theorem f136_eq (k : Nat) (t : ByteArray) : D 136 [.sc (.string t)] =
 f136.l0a k t (t.size : Int) 0 :=
 (denI_eq k _ _).trans (by kernel_rfl)
theorem f136.l0a_eq (k : Nat) (t : ByteArray) (t5 t6 : Int) : f136.l0a k t t5 t6 =
 if decide (t6 < t5) = true then
 if 0 ≤ t6 then
 if t6 < (t.size : Int) then
 (D 178 [.sc (.int .u8 (bt t t6))]).bind fun r1 => if hasSh .bool r1 = true then
 if (!r1.toBool) = true then
 some (.sc (.bool false))
 else
 f136.l0a k t t5 (IntKind.i64.wrap (t6 + 1))
 else none
 else none
 else none
 else
 some (.sc (.bool true)) :=
 (loopAt_eq _ _ _ _).trans (by kernel_rfl)
-- oculus/node.ref
theorem f83_eq (k : Nat) (r r_1 : Int) (r_2 r_3 : Bool) : D 83 [.agg [.sc (.int .i64 r), .sc (.int .i64 r_1), .sc (.bool r_2), .sc (.bool r_3)]] =
 (D 111 [.agg [.sc (.int .i64 r), .sc (.int .i64 r_1)]]).bind fun r1 => if hasSh .bool r1 = true then
 some (.sc (.bool r1.toBool))
 else none :=
 (denI_eq k _ _).trans (by kernel_rfl)
-- oculus/addr.May
theorem f111_eq (k : Nat) (c c_1 : Int) : D 111 [.agg [.sc (.int .i64 c), .sc (.int .i64 c_1)]] =
 Option.bind (α := PV) (
 if decide (c ≥ 0) = true then
 some (.sc (.bool (decide (c < 999))))
 else
 some (.sc (.bool false))) fun r1 =>
 Option.bind (α := PV) (
 if r1.toBool = true then
 some (.sc (.bool (decide (c_1 ≥ 0))))
 else
 some (.sc (.bool false))) fun r2 =>
 Option.bind (α := PV) (
 if r2.toBool = true then
 some (.sc (.bool (decide (c_1 < 702))))
 else
 some (.sc (.bool false))) fun r3 =>
 some (.sc (.bool r3.toBool)) :=
 (denI_eq k _ _).trans (by kernel_rfl)
-- oculus/node.fits
theorem f84_eq (k : Nat) (kind n_ n__1 n__2 n__3 : Int) (n__4 : ByteArray) (n__5 n__6 : Int) (n__7 n__8 : Bool) (n__9 n__10 : Int) (n__11 n__12 : Bool) (nn : Nat) (nf : Nat → PV) : D 84 [.sc (.int .u8 kind), .agg [.sc (.int .i64 n_), .sc (.int .i64 n__1), .sc (.int .i64 n__2), .sc (.int .i64 n__3), .sc (.string n__4), .sc (.int .i64 n__5), .sc (.int .i64 n__6), .sc (.bool n__7), .sc (.bool n__8), .sc (.int .i64 n__9), .sc (.int .i64 n__10), .sc (.bool n__11), .sc (.bool n__12), .lst 14 nn nf]] =
 if (kind == 108) = true then
 some (.sc (.bool true))
 else
 if (kind == 114) = true then
 Option.bind (α := PV) (
 if (n_ == 3) = true then
 some (.sc (.bool true))
 else
 some (.sc (.bool (n_ == 4)))) fun r1 =>
 Option.bind (α := PV) (
 if r1.toBool = true then
 some (.sc (.bool true))
 else
 some (.sc (.bool (n_ == 2)))) fun r2 =>
 some (.sc (.bool r2.toBool))
 else
 if (kind == 110) = true then
 Option.bind (α := PV) (
 if (n_ == 3) = true then
 some (.sc (.bool true))
 else
 some (.sc (.bool (n_ == 4)))) fun r3 =>
 Option.bind (α := PV) (
 if r3.toBool = true then
 some (.sc (.bool true))
 else
 some (.sc (.bool (n_ == 2)))) fun r4 =>
 some (.sc (.bool r4.toBool))
 else
 if (kind == 116) = true then
 (D 137 [.sc (.string n__4)]).bind fun r5 => if hasSh (.tup [(.agg [(.int .i64), (.int .u64)]), .bool]) r5 = true then
 Option.bind (α := PV) (
 if (cel 1 r5.parts).toBool = true then
 some (.sc (.bool (n_ == 1)))
 else
 some (.sc (.bool false))) fun r6 =>
 Option.bind (α := PV) (
 if r6.toBool = true then
 some (.sc (.bool (n__2 == 2)))
 else
 some (.sc (.bool false))) fun r7 =>
 some (.sc (.bool r7.toBool))
 else none
 else
 some (.sc (.bool (n_ != 4))) :=
 (denI_eq k _ _).trans (by kernel_rfl)
-- oculus/label.Parse
noncomputable def f137.l0a (k : Nat) (head rest : ByteArray) (more : Bool) (t21 c0 c0_1 l l_1 : Int) : Option PV := loopAt Tryz.prog cf ext hint k 137 [1, 1, 1, 1, 0, 1, 0] ⟨([.top, .top, .ptr 0 0, .top, .sc (.string head), .sc (.string rest), .sc (.bool more), .ptr 1 0] ++ tops 13 ([.sc (.int .i64 t21)] ++ tops 36 ([]))), [.cells 162 [.sc (.int .i64 c0), .sc (.int .u64 c0_1)], .cells 162 [.sc (.int .i64 l), .sc (.int .u64 l_1)]], none⟩
theorem f137_eq (k : Nat) (t : ByteArray) : D 137 [.sc (.string t)] =
 if (t.toList == (⟨#[116, 111, 112]⟩ : ByteArray).toList) = true then
 (D 183 []).bind fun r1 => if hasSh (.agg [(.int .i64), (.int .u64)]) r1 = true then
 some (.tup [.agg [.sc (.int .i64 ((cel 0 r1.cells).toInt)), .sc (.int .u64 ((cel 1 r1.cells).toInt))], .sc (.bool true)])
 else none
 else
 (D 184 [.sc (.string t), .sc (.string (⟨#[58]⟩ : ByteArray))]).bind fun r2 => if hasSh (.tup [.str, .str, .bool]) r2 = true then
 f137.l0a k ((cel 0 r2.parts).toStr) ((cel 1 r2.parts).toStr) ((cel 2 r2.parts).toBool) 0 0 0 (-1) 0
 else none :=
 (denI_eq k _ _).trans (by kernel_rfl)
theorem f137.l0a_eq (k : Nat) (head rest : ByteArray) (more : Bool) (t21 c0 c0_1 l l_1 : Int) : f137.l0a k head rest more t21 c0 c0_1 l l_1 =
 if decide (t21 < 16) = true then
 (D 112 [.sc (.int .i64 t21)]).bind fun r3 => if hasSh .str r3 = true then
 if (r3.toStr.toList == head.toList) = true then
 f137.l0a k head rest more (IntKind.i64.wrap (t21 + 1)) c0 c0_1 t21 l_1
 else
 f137.l0a k head rest more (IntKind.i64.wrap (t21 + 1)) c0 c0_1 l l_1
 else none
 else
 (D 185 [.sc (.string rest)]).bind fun r4 => if hasSh (.tup [(.int .u64), .bool]) r4 = true then
 Option.bind (α := PV) (
 if (!((cel 1 r4.parts).toBool)) = true then
 some (.sc (.bool true))
 else
 some (.sc (.bool (decide (l < 0))))) fun r5 =>
 Option.bind (α := PV) (
 if r5.toBool = true then
 some (.sc (.bool true))
 else
 some (.sc (.bool (!(more == (((cel 0 r4.parts).toInt) != 0)))))) fun r6 =>
 Option.bind (α := PV) (
 if r6.toBool = true then
 some (.sc (.bool true))
 else
 Option.bind (α := PV) (
 (D 183 []).bind fun r7 => if hasSh (.agg [(.int .i64), (.int .u64)]) r7 = true then
 some (.sc (.bool ((l == ((cel 0 r7.cells).toInt)) && ((((cel 0 r4.parts).toInt) == ((cel 1 r7.cells).toInt)) && true))))
 else none) fun r8 =>
 some (.sc (.bool r8.toBool))) fun r9 =>
 if r9.toBool = true then
 some (.tup [.agg [.sc (.int .i64 0), .sc (.int .u64 0)], .sc (.bool false)])
 else
 some (.tup [.agg [.sc (.int .i64 l), .sc (.int .u64 ((cel 0 r4.parts).toInt))], .sc (.bool true)])
 else none :=
 (loopAt_eq _ _ _ _).trans (by kernel_rfl)
-- oculus/label.Top
theorem f183_eq (k : Nat)  : D 183 [] =
 some (.agg [.sc (.int .i64 15), .sc (.int .u64 18446744073709551615)]) :=
 (denI_eq k _ _).trans (by kernel_rfl)
-- oculus/cats.Parse
noncomputable def f185.l0a (k : Nat) (s_ : Int) (t12n : Nat) (t12f : Nat → PV) (t13 t14 : Int) : Option PV := loopAt Tryz.prog cf ext hint k 185 [1, 1, 1, 0, 1, 0] ⟨(tops 4 ([.sc (.int .u64 s_)] ++ tops 7 ([.lst 1 t12n t12f, .sc (.int .i64 t13), .sc (.int .i64 t14)] ++ tops 24 ([])))), [], none⟩
theorem f185_eq (k : Nat) (t : ByteArray) : D 185 [.sc (.string t)] =
 if (t.toList == (⟨#[]⟩ : ByteArray).toList) = true then
 some (.tup [.sc (.int .u64 0), .sc (.bool true)])
 else
 (D 209 [.sc (.string t), .sc (.string (⟨#[44]⟩ : ByteArray))]).bind fun r1 => if hasSh (.lst 1) r1 = true then
 f185.l0a k 0 r1.len r1.at (r1.len : Int) 0
 else none :=
 (denI_eq k _ _).trans (by kernel_rfl)
theorem f185.l0a_eq (k : Nat) (s_ : Int) (t12n : Nat) (t12f : Nat → PV) (t13 t14 : Int) : f185.l0a k s_ t12n t12f t13 t14 =
 if decide (t14 < t13) = true then
 if 0 ≤ t14 then
 if t14 < (t12n : Int) then
 if hasSh .str (t12f t14.toNat) = true then
 (D 210 [.sc (.string ((t12f t14.toNat).toStr))]).bind fun r2 => if hasSh (.tup [(.int .i64), .bool]) r2 = true then
 Option.bind (α := PV) (
 if (!((cel 1 r2.parts).toBool)) = true then
 some (.sc (.bool true))
 else
 Option.bind (α := PV) (
 Option.bind (α := PV) (
 Option.bind (α := PV) (
 if 0 ≤ IntKind.u64.wrap ((cel 0 r2.parts).toInt) then
 some (.sc (.bool ((s_.fdiv (2 ^ (min (IntKind.u64.wrap ((cel 0 r2.parts).toInt)).toNat 64))) != 0)))
 else none) fun r3 =>
 some (.sc (.bool r3.toBool))) fun r4 =>
 some (.sc (.bool r4.toBool))) fun r5 =>
 some (.sc (.bool r5.toBool))) fun r6 =>
 if r6.toBool = true then
 some (.tup [.sc (.int .u64 0), .sc (.bool false)])
 else
 if 0 ≤ IntKind.u64.wrap ((cel 0 r2.parts).toInt) then
 f185.l0a k (bits .or .u64 s_ (IntKind.u64.wrap ((1 : Int) * 2 ^ (min (IntKind.u64.wrap ((cel 0 r2.parts).toInt)).toNat 64)))) t12n t12f t13 (IntKind.i64.wrap (t14 + 1))
 else none
 else none
 else none
 else none
 else none
 else
 some (.tup [.sc (.int .u64 s_), .sc (.bool true)]) :=
 (loopAt_eq _ _ _ _).trans (by kernel_rfl)
-- oculus/cats.number
noncomputable def f210.l0a (k : Nat) (w : ByteArray) (c t25 t26 : Int) : Option PV := loopAt Tryz.prog cf ext hint k 210 [1, 1, 1, 0, 1, 0] ⟨([.sc (.string w), .top, .top, .top, .sc (.int .i64 c)] ++ tops 20 ([.sc (.int .i64 t25), .sc (.int .i64 t26)] ++ tops 24 ([]))), [], none⟩
theorem f210_eq (k : Nat) (w : ByteArray) : D 210 [.sc (.string w)] =
 Option.bind (α := PV) (
 if decide ((w.size : Int) < 1) = true then
 some (.sc (.bool true))
 else
 some (.sc (.bool (decide ((w.size : Int) > 2))))) fun r1 =>
 Option.bind (α := PV) (
 if r1.toBool = true then
 some (.sc (.bool true))
 else
 Option.bind (α := PV) (
 Option.bind (α := PV) (
 Option.bind (α := PV) (
 Option.bind (α := PV) (
 if ((w.size : Int) == 2) = true then
 Option.bind (α := PV) (
 if 0 < (w.size : Int) then
 some (.sc (.bool ((bt w 0) == 48)))
 else none) fun r2 =>
 some (.sc (.bool r2.toBool))
 else
 some (.sc (.bool false))) fun r3 =>
 some (.sc (.bool r3.toBool))) fun r4 =>
 some (.sc (.bool r4.toBool))) fun r5 =>
 some (.sc (.bool r5.toBool))) fun r6 =>
 some (.sc (.bool r6.toBool))) fun r7 =>
 if r7.toBool = true then
 some (.tup [.sc (.int .i64 0), .sc (.bool false)])
 else
 f210.l0a k w 0 (w.size : Int) 0 :=
 (denI_eq k _ _).trans (by kernel_rfl)
theorem f210.l0a_eq (k : Nat) (w : ByteArray) (c t25 t26 : Int) : f210.l0a k w c t25 t26 =
 if decide (t26 < t25) = true then
 if 0 ≤ t26 then
 if t26 < (w.size : Int) then
 Option.bind (α := PV) (
 if decide ((bt w t26) < 48) = true then
 some (.sc (.bool true))
 else
 Option.bind (α := PV) (
 Option.bind (α := PV) (
 if 0 ≤ t26 then
 if t26 < (w.size : Int) then
 some (.sc (.bool (decide ((bt w t26) > 57))))
 else none
 else none) fun r8 =>
 some (.sc (.bool r8.toBool))) fun r9 =>
 some (.sc (.bool r9.toBool))) fun r10 =>
 if r10.toBool = true then
 some (.tup [.sc (.int .i64 0), .sc (.bool false)])
 else
 if 0 ≤ t26 then
 if t26 < (w.size : Int) then
 f210.l0a k w (IntKind.i64.wrap ((IntKind.i64.wrap (c * 10)) + (IntKind.i64.wrap (IntKind.u8.wrap ((bt w t26) - 48))))) t25 (IntKind.i64.wrap (t26 + 1))
 else none
 else none
 else none
 else none
 else
 some (.tup [.sc (.int .i64 c), .sc (.bool (decide (c < 64)))]) :=
 (loopAt_eq _ _ _ _).trans (by kernel_rfl)
-- oculus/node.called
noncomputable def f85.l0a (k : Nat) (t13n : Nat) (t13f : Nat → PV) (t14 t15 n_ n__1 n__2 n__3 : Int) (n__4 : ByteArray) (n__5 n__6 : Int) (n__7 n__8 : Bool) (n__9 n__10 : Int) (n__11 n__12 : Bool) (nn : Nat) (nf : Nat → PV) : Option PV := loopAt Tryz.prog cf ext hint k 85 [1, 1, 0, 1, 0] ⟨([.top, .ptr 0 0] ++ tops 11 ([.lst 14 t13n t13f, .sc (.int .i64 t14), .sc (.int .i64 t15)] ++ tops 12 ([]))), [.cells 29 [.sc (.int .i64 n_), .sc (.int .i64 n__1), .sc (.int .i64 n__2), .sc (.int .i64 n__3), .sc (.string n__4), .sc (.int .i64 n__5), .sc (.int .i64 n__6), .sc (.bool n__7), .sc (.bool n__8), .sc (.int .i64 n__9), .sc (.int .i64 n__10), .sc (.bool n__11), .sc (.bool n__12), .lst 14 nn nf]], none⟩
theorem f85_eq (k : Nat) (n_ n__1 n__2 n__3 : Int) (n__4 : ByteArray) (n__5 n__6 : Int) (n__7 n__8 : Bool) (n__9 n__10 : Int) (n__11 n__12 : Bool) (nn : Nat) (nf : Nat → PV) : D 85 [.agg [.sc (.int .i64 n_), .sc (.int .i64 n__1), .sc (.int .i64 n__2), .sc (.int .i64 n__3), .sc (.string n__4), .sc (.int .i64 n__5), .sc (.int .i64 n__6), .sc (.bool n__7), .sc (.bool n__8), .sc (.int .i64 n__9), .sc (.int .i64 n__10), .sc (.bool n__11), .sc (.bool n__12), .lst 14 nn nf]] =
 (D 138 [.sc (.int .i64 n__1), .sc (.int .i64 (nn : Int))]).bind fun r1 => if hasSh .bool r1 = true then
 if (!r1.toBool) = true then
 some (.sc (.bool false))
 else
 f85.l0a k nn nf (nn : Int) 0 n_ n__1 n__2 n__3 n__4 n__5 n__6 n__7 n__8 n__9 n__10 n__11 n__12 nn nf
 else none :=
 (denI_eq k _ _).trans (by kernel_rfl)
theorem f85.l0a_eq (k : Nat) (t13n : Nat) (t13f : Nat → PV) (t14 t15 n_ n__1 n__2 n__3 : Int) (n__4 : ByteArray) (n__5 n__6 : Int) (n__7 n__8 : Bool) (n__9 n__10 : Int) (n__11 n__12 : Bool) (nn : Nat) (nf : Nat → PV) : f85.l0a k t13n t13f t14 t15 n_ n__1 n__2 n__3 n__4 n__5 n__6 n__7 n__8 n__9 n__10 n__11 n__12 nn nf =
 if decide (t15 < t14) = true then
 if 0 ≤ t15 then
 if t15 < (t13n : Int) then
 if hasSh (.agg [(.int .i64), (.int .i64), (.int .i64), (.int .i64), .str, (.int .i64), (.int .i64), .bool, .bool, (.int .i64), (.int .i64), .bool, .bool, (.lst 14)]) (t13f t15.toNat) = true then
 (D 139 [.sc (.int .i64 n__1), .sc (.int .i64 t15)]).bind fun r2 => if hasSh (.int .u8) r2 = true then
 (D 84 [.sc (.int .u8 r2.toInt), rbE (t13f t15.toNat)]).bind fun r3 => if hasSh .bool r3 = true then
 if (!r3.toBool) = true then
 some (.sc (.bool false))
 else
 f85.l0a k t13n t13f t14 (IntKind.i64.wrap (t15 + 1)) n_ n__1 n__2 n__3 n__4 n__5 n__6 n__7 n__8 n__9 n__10 n__11 n__12 nn nf
 else none
 else none
 else none
 else none
 else none
 else
 some (.sc (.bool true)) :=
 (loopAt_eq _ _ _ _).trans (by kernel_rfl)
-- oculus/fname.Fits
theorem f138_eq (k : Nat) (fn n_ : Int) : D 138 [.sc (.int .i64 fn), .sc (.int .i64 n_)] =
 (D 155 [.sc (.int .i64 fn)]).bind fun r1 => if hasSh (.tup [.str, .str]) r1 = true then
 Option.bind (α := PV) (
 if (!(((cel 1 r1.parts).toStr).toList == (⟨#[]⟩ : ByteArray).toList)) = true then
 Option.bind (α := PV) (
 Option.bind (α := PV) (
 if 0 < (((cel 1 r1.parts).toStr).size : Int) then
 some (.sc (.bool (decide (n_ ≥ (IntKind.i64.wrap (IntKind.u8.wrap ((bt ((cel 1 r1.parts).toStr) 0) - 48)))))))
 else none) fun r2 =>
 some (.sc (.bool r2.toBool))) fun r3 =>
 some (.sc (.bool r3.toBool))
 else
 some (.sc (.bool false))) fun r4 =>
 Option.bind (α := PV) (
 if r4.toBool = true then
 Option.bind (α := PV) (
 Option.bind (α := PV) (
 if 1 < (((cel 1 r1.parts).toStr).size : Int) then
 some (.sc (.bool (decide (n_ ≤ (IntKind.i64.wrap (IntKind.u8.wrap ((bt ((cel 1 r1.parts).toStr) 1) - 48)))))))
 else none) fun r5 =>
 some (.sc (.bool r5.toBool))) fun r6 =>
 some (.sc (.bool r6.toBool))
 else
 some (.sc (.bool false))) fun r7 =>
 some (.sc (.bool r7.toBool))
 else none :=
 (denI_eq k _ _).trans (by kernel_rfl)
-- oculus/fname.Kind
theorem f139_eq (k : Nat) (fn i : Int) : D 139 [.sc (.int .i64 fn), .sc (.int .i64 i)] =
 (D 155 [.sc (.int .i64 fn)]).bind fun r1 => if hasSh (.tup [.str, .str]) r1 = true then
 Option.bind (α := PV) (
 if (((cel 1 r1.parts).toStr).toList == (⟨#[]⟩ : ByteArray).toList) = true then
 some (.sc (.bool true))
 else
 some (.sc (.bool (decide (i < 0))))) fun r2 =>
 Option.bind (α := PV) (
 if r2.toBool = true then
 some (.sc (.bool true))
 else
 Option.bind (α := PV) (
 Option.bind (α := PV) (
 if 1 < (((cel 1 r1.parts).toStr).size : Int) then
 some (.sc (.bool (decide (i ≥ (IntKind.i64.wrap (IntKind.u8.wrap ((bt ((cel 1 r1.parts).toStr) 1) - 48)))))))
 else none) fun r3 =>
 some (.sc (.bool r3.toBool))) fun r4 =>
 some (.sc (.bool r4.toBool))) fun r5 =>
 if r5.toBool = true then
 some (.sc (.int .u8 0))
 else
 if 0 ≤ (if IntKind.i64.wrap ((((cel 1 r1.parts).toStr).size : Int) - 1) < IntKind.i64.wrap ((2 : Int) + i) then IntKind.i64.wrap ((((cel 1 r1.parts).toStr).size : Int) - 1) else IntKind.i64.wrap ((2 : Int) + i)) then
 if (if IntKind.i64.wrap ((((cel 1 r1.parts).toStr).size : Int) - 1) < IntKind.i64.wrap ((2 : Int) + i) then IntKind.i64.wrap ((((cel 1 r1.parts).toStr).size : Int) - 1) else IntKind.i64.wrap ((2 : Int) + i)) < (((cel 1 r1.parts).toStr).size : Int) then
 some (.sc (.int .u8 (bt ((cel 1 r1.parts).toStr) (if IntKind.i64.wrap ((((cel 1 r1.parts).toStr).size : Int) - 1) < IntKind.i64.wrap ((2 : Int) + i) then IntKind.i64.wrap ((((cel 1 r1.parts).toStr).size : Int) - 1) else IntKind.i64.wrap ((2 : Int) + i)))))
 else none
 else none
 else none :=
 (denI_eq k _ _).trans (by kernel_rfl)
-- oculus/node.Deep
noncomputable def f44.l0a (k : Nat) (most : Int) (t7n : Nat) (t7f : Nat → PV) (t8 t9 : Int) : Option PV := loopAt Tryz.prog cf ext hint k 44 [1, 1, 0, 1, 0] ⟨([.top, .top, .top, .sc (.int .i64 most), .top, .top, .top, .lst 14 t7n t7f, .sc (.int .i64 t8), .sc (.int .i64 t9)] ++ tops 10 ([])), [], none⟩
theorem f44_eq (k : Nat) (n_ n__1 n__2 n__3 : Int) (n__4 : ByteArray) (n__5 n__6 : Int) (n__7 n__8 : Bool) (n__9 n__10 : Int) (n__11 n__12 : Bool) (nn : Nat) (nf : Nat → PV) : D 44 [.agg [.sc (.int .i64 n_), .sc (.int .i64 n__1), .sc (.int .i64 n__2), .sc (.int .i64 n__3), .sc (.string n__4), .sc (.int .i64 n__5), .sc (.int .i64 n__6), .sc (.bool n__7), .sc (.bool n__8), .sc (.int .i64 n__9), .sc (.int .i64 n__10), .sc (.bool n__11), .sc (.bool n__12), .lst 14 nn nf]] =
 f44.l0a k 0 nn nf (nn : Int) 0 :=
 (denI_eq k _ _).trans (by kernel_rfl)
theorem f44.l0a_eq (k : Nat) (most : Int) (t7n : Nat) (t7f : Nat → PV) (t8 t9 : Int) : f44.l0a k most t7n t7f t8 t9 =
 if decide (t9 < t8) = true then
 if 0 ≤ t9 then
 if t9 < (t7n : Int) then
 if hasSh (.agg [(.int .i64), (.int .i64), (.int .i64), (.int .i64), .str, (.int .i64), (.int .i64), .bool, .bool, (.int .i64), (.int .i64), .bool, .bool, (.lst 14)]) (t7f t9.toNat) = true then
 (D 44 [rbE (t7f t9.toNat)]).bind fun r1 => if hasSh (.int .i64) r1 = true then
 f44.l0a k (if r1.toInt > most then r1.toInt else most) t7n t7f t8 (IntKind.i64.wrap (t9 + 1))
 else none
 else none
 else none
 else none
 else
 some (.sc (.int .i64 (IntKind.i64.wrap (most + 1)))) :=
 (loopAt_eq _ _ _ _).trans (by kernel_rfl)
-- oculus/canon.Text
theorem f22_eq (k : Nat) (n_ n__1 n__2 n__3 : Int) (n__4 : ByteArray) (n__5 n__6 : Int) (n__7 n__8 : Bool) (n__9 n__10 : Int) (n__11 n__12 : Bool) (nn : Nat) (nf : Nat → PV) : D 22 [.agg [.sc (.int .i64 n_), .sc (.int .i64 n__1), .sc (.int .i64 n__2), .sc (.int .i64 n__3), .sc (.string n__4), .sc (.int .i64 n__5), .sc (.int .i64 n__6), .sc (.bool n__7), .sc (.bool n__8), .sc (.int .i64 n__9), .sc (.int .i64 n__10), .sc (.bool n__11), .sc (.bool n__12), .lst 14 nn nf]] =
 (D 43 [.agg [.sc (.int .i64 n_), .sc (.int .i64 n__1), .sc (.int .i64 n__2), .sc (.int .i64 n__3), .sc (.string n__4), .sc (.int .i64 n__5), .sc (.int .i64 n__6), .sc (.bool n__7), .sc (.bool n__8), .sc (.int .i64 n__9), .sc (.int .i64 n__10), .sc (.bool n__11), .sc (.bool n__12), .lst 14 nn nf]]).bind fun r1 => if hasSh .bool r1 = true then
 if (!r1.toBool) = true then
 some (.sc (.string (⟨#[]⟩ : ByteArray)))
 else
 (D 52 [.hp [.iptr (.ptr 90 0 :: [.selfp 0, .buf 1 0]), .tup (.ptr 5 0 :: ([] : List PV))], .ptr 0 0, .agg [.sc (.int .i64 n_), .sc (.int .i64 n__1), .sc (.int .i64 n__2), .sc (.int .i64 n__3), .sc (.string n__4), .sc (.int .i64 n__5), .sc (.int .i64 n__6), .sc (.bool n__7), .sc (.bool n__8), .sc (.int .i64 n__9), .sc (.int .i64 n__10), .sc (.bool n__11), .sc (.bool n__12), .lst 14 nn nf]]).bind fun r2 => if (isHand r2 && (false || objsOk fo52 (handObjs r2)) && retOk Tryz.prog 6 [] (handRet r2)) = true then
 (D 53 [.hp [.iptr (.ptr 90 0 :: [.selfp 0, .buf 1 0]), .tup (.ptr 5 0 :: (hBuf 1 r2))], .ptr 0 0]).bind fun r3 => if (isHand r3 && (true || objsOk fo53 (handObjs r3)) && retOk Tryz.prog 6 [9] (handRet r3)) = true then
 some (.sc (.string ((handRet r3).toStr)))
 else none
 else none
 else none :=
 (denI_eq k _ _).trans (by kernel_rfl)
end ET
end Go.Den
