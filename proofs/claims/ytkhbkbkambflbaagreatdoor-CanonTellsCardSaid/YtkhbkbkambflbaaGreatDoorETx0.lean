import Derived.Test.YtkhbkbkambflbaaGreatDoorETh
import Derived.KernelRfl
set_option maxRecDepth 100000
set_option linter.unusedVariables false
namespace Go.Den
open Go Go.Proofs
namespace ET
-- oculus/oculuslaw24.CanonTells
theorem f6_eq (k : Nat) (n_ n__1 n__2 n__3 : Int) (n__4 : ByteArray) (n__5 n__6 : Int) (n__7 n__8 : Bool) (n__9 n__10 : Int) (n__11 n__12 : Bool) (nn : Nat) (nf : Nat → PV) : D 6 [.agg [.sc (.int .i64 n_), .sc (.int .i64 n__1), .sc (.int .i64 n__2), .sc (.int .i64 n__3), .sc (.string n__4), .sc (.int .i64 n__5), .sc (.int .i64 n__6), .sc (.bool n__7), .sc (.bool n__8), .sc (.int .i64 n__9), .sc (.int .i64 n__10), .sc (.bool n__11), .sc (.bool n__12), .lst 14 nn nf]] =
 (D 20 [.agg [.sc (.int .i64 n_), .sc (.int .i64 n__1), .sc (.int .i64 n__2), .sc (.int .i64 n__3), .sc (.string n__4), .sc (.int .i64 n__5), .sc (.int .i64 n__6), .sc (.bool n__7), .sc (.bool n__8), .sc (.int .i64 n__9), .sc (.int .i64 n__10), .sc (.bool n__11), .sc (.bool n__12), .lst 14 nn nf]]).bind fun r1 => if hasSh .bool r1 = true then
 if (!r1.toBool) = true then
 (D 21 []).bind fun r2 => if hasSh .bool r2 = true then
 some (.sc (.bool r2.toBool))
 else none
 else
 (D 22 [.agg [.sc (.int .i64 n_), .sc (.int .i64 n__1), .sc (.int .i64 n__2), .sc (.int .i64 n__3), .sc (.string n__4), .sc (.int .i64 n__5), .sc (.int .i64 n__6), .sc (.bool n__7), .sc (.bool n__8), .sc (.int .i64 n__9), .sc (.int .i64 n__10), .sc (.bool n__11), .sc (.bool n__12), .lst 14 nn nf]]).bind fun r3 => if hasSh .str r3 = true then
 (D 23 [.agg [.sc (.int .i64 n_), .sc (.int .i64 n__1), .sc (.int .i64 n__2), .sc (.int .i64 n__3), .sc (.string n__4), .sc (.int .i64 n__5), .sc (.int .i64 n__6), .sc (.bool n__7), .sc (.bool n__8), .sc (.int .i64 n__9), .sc (.int .i64 n__10), .sc (.bool n__11), .sc (.bool n__12), .lst 14 nn nf]]).bind fun r4 => if hasSh .str r4 = true then
 Option.bind (α := PV) (
 if (r3.toStr.toList == r4.toStr.toList) = true then
 Option.bind (α := PV) (
 Option.bind (α := PV) (
 (D 24 [.agg [.sc (.int .i64 n__5), .sc (.int .i64 n__6), .sc (.bool n__7), .sc (.bool n__8)]]).bind fun r5 => if hasSh .str r5 = true then
 Option.bind (α := PV) (
 Option.bind (α := PV) (
 Option.bind (α := PV) (
 (D 25 [.agg [.sc (.int .i64 n__5), .sc (.int .i64 n__6), .sc (.bool n__7), .sc (.bool n__8)]]).bind fun r6 => if hasSh .str r6 = true then
 some (.sc (.bool (r5.toStr.toList == r6.toStr.toList)))
 else none) fun r7 =>
 some (.sc (.bool r7.toBool))) fun r8 =>
 some (.sc (.bool r8.toBool))) fun r9 =>
 some (.sc (.bool r9.toBool))
 else none) fun r10 =>
 some (.sc (.bool r10.toBool))) fun r11 =>
 some (.sc (.bool r11.toBool))
 else
 some (.sc (.bool false))) fun r12 =>
 Option.bind (α := PV) (
 if r12.toBool = true then
 Option.bind (α := PV) (
 Option.bind (α := PV) (
 (D 24 [.agg [.sc (.int .i64 n__9), .sc (.int .i64 n__10), .sc (.bool n__11), .sc (.bool n__12)]]).bind fun r13 => if hasSh .str r13 = true then
 Option.bind (α := PV) (
 Option.bind (α := PV) (
 Option.bind (α := PV) (
 (D 25 [.agg [.sc (.int .i64 n__9), .sc (.int .i64 n__10), .sc (.bool n__11), .sc (.bool n__12)]]).bind fun r14 => if hasSh .str r14 = true then
 some (.sc (.bool (r13.toStr.toList == r14.toStr.toList)))
 else none) fun r15 =>
 some (.sc (.bool r15.toBool))) fun r16 =>
 some (.sc (.bool r16.toBool))) fun r17 =>
 some (.sc (.bool r17.toBool))
 else none) fun r18 =>
 some (.sc (.bool r18.toBool))) fun r19 =>
 some (.sc (.bool r19.toBool))
 else
 some (.sc (.bool false))) fun r20 =>
 Option.bind (α := PV) (
 if r20.toBool = true then
 (D 21 []).bind fun r21 => if hasSh .bool r21 = true then
 some (.sc (.bool r21.toBool))
 else none
 else
 some (.sc (.bool false))) fun r22 =>
 some (.sc (.bool r22.toBool))
 else none
 else none
 else none :=
 (denI_eq k _ _).trans (by kernel_rfl)
-- oculus/oculuslaw24.few
theorem f20_eq (k : Nat) (n_ n__1 n__2 n__3 : Int) (n__4 : ByteArray) (n__5 n__6 : Int) (n__7 n__8 : Bool) (n__9 n__10 : Int) (n__11 n__12 : Bool) (nn : Nat) (nf : Nat → PV) : D 20 [.agg [.sc (.int .i64 n_), .sc (.int .i64 n__1), .sc (.int .i64 n__2), .sc (.int .i64 n__3), .sc (.string n__4), .sc (.int .i64 n__5), .sc (.int .i64 n__6), .sc (.bool n__7), .sc (.bool n__8), .sc (.int .i64 n__9), .sc (.int .i64 n__10), .sc (.bool n__11), .sc (.bool n__12), .lst 14 nn nf]] =
 (D 27 [.agg [.sc (.int .i64 n_), .sc (.int .i64 n__1), .sc (.int .i64 n__2), .sc (.int .i64 n__3), .sc (.string n__4), .sc (.int .i64 n__5), .sc (.int .i64 n__6), .sc (.bool n__7), .sc (.bool n__8), .sc (.int .i64 n__9), .sc (.int .i64 n__10), .sc (.bool n__11), .sc (.bool n__12), .lst 14 nn nf], .sc (.int .i64 200)]).bind fun r1 => if hasSh .bool r1 = true then
 some (.sc (.bool r1.toBool))
 else none :=
 (denI_eq k _ _).trans (by kernel_rfl)
-- oculus/oculusref22.Few
theorem f27_eq (k : Nat) (n_ n__1 n__2 n__3 : Int) (n__4 : ByteArray) (n__5 n__6 : Int) (n__7 n__8 : Bool) (n__9 n__10 : Int) (n__11 n__12 : Bool) (nn : Nat) (nf : Nat → PV) (most : Int) : D 27 [.agg [.sc (.int .i64 n_), .sc (.int .i64 n__1), .sc (.int .i64 n__2), .sc (.int .i64 n__3), .sc (.string n__4), .sc (.int .i64 n__5), .sc (.int .i64 n__6), .sc (.bool n__7), .sc (.bool n__8), .sc (.int .i64 n__9), .sc (.int .i64 n__10), .sc (.bool n__11), .sc (.bool n__12), .lst 14 nn nf], .sc (.int .i64 most)] =
 (D 61 [.agg [.sc (.int .i64 n_), .sc (.int .i64 n__1), .sc (.int .i64 n__2), .sc (.int .i64 n__3), .sc (.string n__4), .sc (.int .i64 n__5), .sc (.int .i64 n__6), .sc (.bool n__7), .sc (.bool n__8), .sc (.int .i64 n__9), .sc (.int .i64 n__10), .sc (.bool n__11), .sc (.bool n__12), .lst 14 nn nf], .sc (.int .i64 most)]).bind fun r1 => if hasSh (.int .i64) r1 = true then
 some (.sc (.bool (decide (r1.toInt ≥ 0))))
 else none :=
 (denI_eq k _ _).trans (by kernel_rfl)
-- oculus/oculusref22.Left
noncomputable def f61.l0a (k : Nat) (most i n_ n__1 n__2 n__3 : Int) (n__4 : ByteArray) (n__5 n__6 : Int) (n__7 n__8 : Bool) (n__9 n__10 : Int) (n__11 n__12 : Bool) (nn : Nat) (nf : Nat → PV) : Option PV := loopAt Tryz.prog cf ext hint k 61 [1, 1, 0, 1, 0] ⟨([.top, .sc (.int .i64 most), .ptr 0 0, .top, .top, .sc (.int .i64 i)] ++ tops 21 ([])), [.cells 29 [.sc (.int .i64 n_), .sc (.int .i64 n__1), .sc (.int .i64 n__2), .sc (.int .i64 n__3), .sc (.string n__4), .sc (.int .i64 n__5), .sc (.int .i64 n__6), .sc (.bool n__7), .sc (.bool n__8), .sc (.int .i64 n__9), .sc (.int .i64 n__10), .sc (.bool n__11), .sc (.bool n__12), .lst 14 nn nf]], none⟩
theorem f61_eq (k : Nat) (n_ n__1 n__2 n__3 : Int) (n__4 : ByteArray) (n__5 n__6 : Int) (n__7 n__8 : Bool) (n__9 n__10 : Int) (n__11 n__12 : Bool) (nn : Nat) (nf : Nat → PV) (most : Int) : D 61 [.agg [.sc (.int .i64 n_), .sc (.int .i64 n__1), .sc (.int .i64 n__2), .sc (.int .i64 n__3), .sc (.string n__4), .sc (.int .i64 n__5), .sc (.int .i64 n__6), .sc (.bool n__7), .sc (.bool n__8), .sc (.int .i64 n__9), .sc (.int .i64 n__10), .sc (.bool n__11), .sc (.bool n__12), .lst 14 nn nf], .sc (.int .i64 most)] =
 f61.l0a k (IntKind.i64.wrap (most - 1)) 0 n_ n__1 n__2 n__3 n__4 n__5 n__6 n__7 n__8 n__9 n__10 n__11 n__12 nn nf :=
 (denI_eq k _ _).trans (by kernel_rfl)
theorem f61.l0a_eq (k : Nat) (most i n_ n__1 n__2 n__3 : Int) (n__4 : ByteArray) (n__5 n__6 : Int) (n__7 n__8 : Bool) (n__9 n__10 : Int) (n__11 n__12 : Bool) (nn : Nat) (nf : Nat → PV) : f61.l0a k most i n_ n__1 n__2 n__3 n__4 n__5 n__6 n__7 n__8 n__9 n__10 n__11 n__12 nn nf =
 Option.bind (α := PV) (
 if decide (i < (nn : Int)) = true then
 some (.sc (.bool (decide (most ≥ 0))))
 else
 some (.sc (.bool false))) fun r1 =>
 if r1.toBool = true then
 if 0 ≤ i then
 if i < (nn : Int) then
 if hasSh (.agg [(.int .i64), (.int .i64), (.int .i64), (.int .i64), .str, (.int .i64), (.int .i64), .bool, .bool, (.int .i64), (.int .i64), .bool, .bool, (.lst 14)]) (nf i.toNat) = true then
 (D 61 [rbE (nf i.toNat), .sc (.int .i64 most)]).bind fun r2 => if hasSh (.int .i64) r2 = true then
 f61.l0a k r2.toInt (IntKind.i64.wrap (i + 1)) n_ n__1 n__2 n__3 n__4 n__5 n__6 n__7 n__8 n__9 n__10 n__11 n__12 nn nf
 else none
 else none
 else none
 else none
 else
 some (.sc (.int .i64 most)) :=
 (loopAt_eq _ _ _ _).trans (by kernel_rfl)
-- oculus/oculuslaw24.alive
theorem f21_eq (k : Nat)  : D 21 [] =
 (D 12 [.sc (.string (⟨#[32, 40, 49, 43, 40, 50, 41, 41, 42, 45, 40, 65, 36, 49, 45, 40, 66, 50, 45, 51, 41, 41, 32, 38, 32, 83, 85, 77, 40, 32, 40, 52, 41, 32, 44, 32, 36, 67, 51, 58, 68, 52, 32, 41]⟩ : ByteArray))]).bind fun r1 => if hasSh (.tup [(.agg [(.int .i64), (.int .i64), (.int .i64), (.int .i64), .str, (.int .i64), (.int .i64), .bool, .bool, (.int .i64), (.int .i64), .bool, .bool, (.lst 14)]), (.int .i64)]) r1 = true then
 Option.bind (α := PV) (
 if (((cel 1 r1.parts).toInt) == 0) = true then
 Option.bind (α := PV) (
 (D 22 [rbE (cel 0 r1.parts)]).bind fun r2 => if hasSh .str r2 = true then
 some (.sc (.bool (r2.toStr.toList == (⟨#[40, 49, 43, 50, 41, 42, 45, 40, 65, 36, 49, 45, 40, 66, 50, 45, 51, 41, 41, 38, 83, 85, 77, 40, 52, 44, 36, 67, 51, 58, 68, 52, 41]⟩ : ByteArray).toList)))
 else none) fun r3 =>
 some (.sc (.bool r3.toBool))
 else
 some (.sc (.bool false))) fun r4 =>
 Option.bind (α := PV) (
 if r4.toBool = true then
 Option.bind (α := PV) (
 (D 24 [.agg [.sc (.int .i64 9), .sc (.int .i64 27), .sc (.bool false), .sc (.bool true)]]).bind fun r5 => if hasSh .str r5 = true then
 some (.sc (.bool (r5.toStr.toList == (⟨#[36, 65, 66, 49, 48]⟩ : ByteArray).toList)))
 else none) fun r6 =>
 some (.sc (.bool r6.toBool))
 else
 some (.sc (.bool false))) fun r7 =>
 some (.sc (.bool r7.toBool))
 else none :=
 (denI_eq k _ _).trans (by kernel_rfl)
-- oculus/parse.Parse
theorem f12_eq (k : Nat) (s_ : ByteArray) : D 12 [.sc (.string s_)] =
 (D 40 [.sc (.string s_)]).bind fun r1 => if hasSh (.tup [(.lst 4), (.int .i64), (.int .i64)]) r1 = true then
 if (((cel 2 r1.parts).toInt) != 0) = true then
 some (.tup [.agg [.sc (.int .i64 0), .sc (.int .i64 0), .sc (.int .i64 0), .sc (.int .i64 0), .sc (.string (⟨#[]⟩ : ByteArray)), .sc (.int .i64 0), .sc (.int .i64 0), .sc (.bool false), .sc (.bool false), .sc (.int .i64 0), .sc (.int .i64 0), .sc (.bool false), .sc (.bool false), .nils], .sc (.int .i64 ((cel 2 r1.parts).toInt))])
 else
 (D 41 [.hp [.iptr (.ptr 67 0 :: [.lst 4 ((cel 0 r1.parts).len) ((cel 0 r1.parts).at), .sc (.int .i64 0), .sc (.bool false)])], .ptr 0 0, .sc (.int .i64 1)]).bind fun r2 => if (isHand r2 && (false || objsOk fo41 (handObjs r2)) && retOk Tryz.prog 6 [29] (handRet r2)) = true then
 if (hCell 0 2 r2).toBool = true then
 some (.tup [.agg [.sc (.int .i64 0), .sc (.int .i64 0), .sc (.int .i64 0), .sc (.int .i64 0), .sc (.string (⟨#[]⟩ : ByteArray)), .sc (.int .i64 0), .sc (.int .i64 0), .sc (.bool false), .sc (.bool false), .sc (.int .i64 0), .sc (.int .i64 0), .sc (.bool false), .sc (.bool false), .nils], .sc (.int .i64 1)])
 else
 (D 42 [.hp [.iptr (.ptr 67 0 :: [.lst 4 ((hCell 0 0 r2).len) ((hCell 0 0 r2).at), .sc (.int .i64 ((hCell 0 1 r2).toInt)), .sc (.bool ((hCell 0 2 r2).toBool))])], .ptr 0 0]).bind fun r3 => if (isHand r3 && (false || objsOk fo42 (handObjs r3)) && retOk Tryz.prog 6 [70] (handRet r3)) = true then
 if (((cel 0 (handRet r3).cells).toInt) != 5) = true then
 some (.tup [.agg [.sc (.int .i64 0), .sc (.int .i64 0), .sc (.int .i64 0), .sc (.int .i64 0), .sc (.string (⟨#[]⟩ : ByteArray)), .sc (.int .i64 0), .sc (.int .i64 0), .sc (.bool false), .sc (.bool false), .sc (.int .i64 0), .sc (.int .i64 0), .sc (.bool false), .sc (.bool false), .nils], .sc (.int .i64 1)])
 else
 (D 43 [rbE (handRet r2)]).bind fun r4 => if hasSh .bool r4 = true then
 if (!r4.toBool) = true then
 some (.tup [.agg [.sc (.int .i64 0), .sc (.int .i64 0), .sc (.int .i64 0), .sc (.int .i64 0), .sc (.string (⟨#[]⟩ : ByteArray)), .sc (.int .i64 0), .sc (.int .i64 0), .sc (.bool false), .sc (.bool false), .sc (.int .i64 0), .sc (.int .i64 0), .sc (.bool false), .sc (.bool false), .nils], .sc (.int .i64 6)])
 else
 (D 44 [rbE (handRet r2)]).bind fun r5 => if hasSh (.int .i64) r5 = true then
 if decide (r5.toInt > 12) = true then
 some (.tup [.agg [.sc (.int .i64 0), .sc (.int .i64 0), .sc (.int .i64 0), .sc (.int .i64 0), .sc (.string (⟨#[]⟩ : ByteArray)), .sc (.int .i64 0), .sc (.int .i64 0), .sc (.bool false), .sc (.bool false), .sc (.int .i64 0), .sc (.int .i64 0), .sc (.bool false), .sc (.bool false), .nils], .sc (.int .i64 4)])
 else
 some (.tup [rbE (handRet r2), .sc (.int .i64 0)])
 else none
 else none
 else none
 else none
 else none :=
 (denI_eq k _ _).trans (by kernel_rfl)
-- oculus/lex.Lex
noncomputable def f40.l0a (k : Nat) (s_ : ByteArray) (at_ : Int) : Option PV := loopAt Tryz.prog cf ext hint k 40 [1, 1, 1, 0, 1, 0] ⟨([.sc (.string s_)] ++ tops 4 ([.nils, .sc (.int .i64 at_)] ++ tops 40 ([]))), [], none⟩
noncomputable def f40.l0b (k : Nat) (s_ : ByteArray) (at_ : Int) (out : List PV) : Option PV := loopAt Tryz.prog cf ext hint k 40 [1, 1, 1, 0, 1, 0] ⟨([.sc (.string s_)] ++ tops 4 ([.buf 0 0, .sc (.int .i64 at_)] ++ tops 40 ([]))), [.buf 70 0 out], none⟩
theorem f40_eq (k : Nat) (s_ : ByteArray) : D 40 [.sc (.string s_)] =
 if decide ((s_.size : Int) > 200) = true then
 some (.tup [.lst 4 0 (fun _ => .top), .sc (.int .i64 0), .sc (.int .i64 3)])
 else
 f40.l0a k s_ 0 :=
 (denI_eq k _ _).trans (by kernel_rfl)
theorem f40.l0a_eq (k : Nat) (s_ : ByteArray) (at_ : Int) : f40.l0a k s_ at_ =
 if decide (at_ < (s_.size : Int)) = true then
 if 0 ≤ at_ then
 if at_ < (s_.size : Int) then
 if ((bt s_ at_) == 32) = true then
 f40.l0a k s_ (IntKind.i64.wrap (at_ + 1))
 else
 if 0 ≤ (s_.size : Int) then
 if (s_.size : Int) ≤ (s_.size : Int) then
 if 0 ≤ at_ then
 if at_ ≤ (s_.size : Int) then
 (D 78 [.sc (.string (s_.extract at_.toNat (s_.size : Int).toNat))]).bind fun r1 => if hasSh (.tup [(.agg [(.int .i64), (.int .i64), .str, (.int .i64)]), (.int .i64)]) r1 = true then
 if (((cel 1 r1.parts).toInt) == 0) = true then
 some (.tup [.lst 4 0 (fun _ => .top), .sc (.int .i64 at_), .sc (.int .i64 1)])
 else
 if ([.agg [.sc (.int .i64 ((cel 0 (cel 0 r1.parts).cells).toInt)), .sc (.int .i64 at_), .sc (.string ((cel 2 (cel 0 r1.parts).cells).toStr)), .sc (.int .i64 ((cel 3 (cel 0 r1.parts).cells).toInt))]] : List PV).length * 40 ≤ 140737488355328 ∧ ([.agg [.sc (.int .i64 ((cel 0 (cel 0 r1.parts).cells).toInt)), .sc (.int .i64 at_), .sc (.string ((cel 2 (cel 0 r1.parts).cells).toStr)), .sc (.int .i64 ((cel 3 (cel 0 r1.parts).cells).toInt))]] : List PV).length ≤ 140737488355328 then
 f40.l0b k s_ (IntKind.i64.wrap (at_ + ((cel 1 r1.parts).toInt))) ([.agg [.sc (.int .i64 ((cel 0 (cel 0 r1.parts).cells).toInt)), .sc (.int .i64 at_), .sc (.string ((cel 2 (cel 0 r1.parts).cells).toStr)), .sc (.int .i64 ((cel 3 (cel 0 r1.parts).cells).toInt))]] : List PV)
 else none
 else none
 else none
 else none
 else none
 else none
 else none
 else none
 else
 if ([.agg [.sc (.int .i64 5), .sc (.int .i64 (s_.size : Int)), .sc (.string (⟨#[]⟩ : ByteArray)), .sc (.int .i64 0)]] : List PV).length * 40 ≤ 140737488355328 ∧ ([.agg [.sc (.int .i64 5), .sc (.int .i64 (s_.size : Int)), .sc (.string (⟨#[]⟩ : ByteArray)), .sc (.int .i64 0)]] : List PV).length ≤ 140737488355328 then
 some (.tup [frozen 4 ([.agg [.sc (.int .i64 5), .sc (.int .i64 (s_.size : Int)), .sc (.string (⟨#[]⟩ : ByteArray)), .sc (.int .i64 0)]] : List PV), .sc (.int .i64 0), .sc (.int .i64 0)])
 else none :=
 (loopAt_eq _ _ _ _).trans (by kernel_rfl)
theorem f40.l0b_eq (k : Nat) (s_ : ByteArray) (at_ : Int) (out : List PV) : f40.l0b k s_ at_ out =
 if decide (at_ < (s_.size : Int)) = true then
 if 0 ≤ at_ then
 if at_ < (s_.size : Int) then
 if ((bt s_ at_) == 32) = true then
 f40.l0b k s_ (IntKind.i64.wrap (at_ + 1)) out
 else
 if 0 ≤ (s_.size : Int) then
 if (s_.size : Int) ≤ (s_.size : Int) then
 if 0 ≤ at_ then
 if at_ ≤ (s_.size : Int) then
 (D 78 [.sc (.string (s_.extract at_.toNat (s_.size : Int).toNat))]).bind fun r2 => if hasSh (.tup [(.agg [(.int .i64), (.int .i64), .str, (.int .i64)]), (.int .i64)]) r2 = true then
 if (((cel 1 r2.parts).toInt) == 0) = true then
 some (.tup [.lst 4 0 (fun _ => .top), .sc (.int .i64 at_), .sc (.int .i64 1)])
 else
 if (out.length + ([.agg [.sc (.int .i64 ((cel 0 (cel 0 r2.parts).cells).toInt)), .sc (.int .i64 at_), .sc (.string ((cel 2 (cel 0 r2.parts).cells).toStr)), .sc (.int .i64 ((cel 3 (cel 0 r2.parts).cells).toInt))]] : List PV).length) * 40 ≤ 140737488355328 ∧ out.length + ([.agg [.sc (.int .i64 ((cel 0 (cel 0 r2.parts).cells).toInt)), .sc (.int .i64 at_), .sc (.string ((cel 2 (cel 0 r2.parts).cells).toStr)), .sc (.int .i64 ((cel 3 (cel 0 r2.parts).cells).toInt))]] : List PV).length ≤ 140737488355328 then
 f40.l0b k s_ (IntKind.i64.wrap (at_ + ((cel 1 r2.parts).toInt))) (out ++ ([.agg [.sc (.int .i64 ((cel 0 (cel 0 r2.parts).cells).toInt)), .sc (.int .i64 at_), .sc (.string ((cel 2 (cel 0 r2.parts).cells).toStr)), .sc (.int .i64 ((cel 3 (cel 0 r2.parts).cells).toInt))]] : List PV))
 else none
 else none
 else none
 else none
 else none
 else none
 else none
 else none
 else
 if (out.length + ([.agg [.sc (.int .i64 5), .sc (.int .i64 (s_.size : Int)), .sc (.string (⟨#[]⟩ : ByteArray)), .sc (.int .i64 0)]] : List PV).length) * 40 ≤ 140737488355328 ∧ out.length + ([.agg [.sc (.int .i64 5), .sc (.int .i64 (s_.size : Int)), .sc (.string (⟨#[]⟩ : ByteArray)), .sc (.int .i64 0)]] : List PV).length ≤ 140737488355328 then
 some (.tup [frozen 4 (out ++ ([.agg [.sc (.int .i64 5), .sc (.int .i64 (s_.size : Int)), .sc (.string (⟨#[]⟩ : ByteArray)), .sc (.int .i64 0)]] : List PV)), .sc (.int .i64 0), .sc (.int .i64 0)])
 else none :=
 (loopAt_eq _ _ _ _).trans (by kernel_rfl)
-- oculus/lex.next
noncomputable def f78.l0a (k : Nat) (s_ : ByteArray) (n_ c0 c0_1 : Int) (c0_2 : ByteArray) (c0_3 : Int) : Option PV := loopAt Tryz.prog cf ext hint k 78 [1, 1, 1, 1, 0, 0] ⟨([.sc (.string s_), .top, .ptr 0 0] ++ tops 6 ([.sc (.int .i64 n_)] ++ tops 66 ([]))), [.cells 70 [.sc (.int .i64 c0), .sc (.int .i64 c0_1), .sc (.string c0_2), .sc (.int .i64 c0_3)]], none⟩
noncomputable def f78.l1a (k : Nat) (s_ : ByteArray) (t61n : Nat) (t61f : Nat → PV) (t62 t63 c0 c0_1 : Int) (c0_2 : ByteArray) (c0_3 : Int) : Option PV := loopAt Tryz.prog cf ext hint k 78 [1, 1, 1, 1, 1, 1, 0, 1, 0] ⟨([.sc (.string s_), .top, .ptr 0 0] ++ tops 58 ([.lst 1 t61n t61f, .sc (.int .i64 t62), .sc (.int .i64 t63)] ++ tops 12 ([]))), [.cells 70 [.sc (.int .i64 c0), .sc (.int .i64 c0_1), .sc (.string c0_2), .sc (.int .i64 c0_3)]], none⟩
theorem f78_eq (k : Nat) (s_ : ByteArray) : D 78 [.sc (.string s_)] =
 if 0 < (s_.size : Int) then
 Option.bind (α := PV) (
 if decide ((bt s_ 0) ≥ 48) = true then
 Option.bind (α := PV) (
 if 0 < (s_.size : Int) then
 some (.sc (.bool (decide ((bt s_ 0) ≤ 57))))
 else none) fun r1 =>
 some (.sc (.bool r1.toBool))
 else
 some (.sc (.bool false))) fun r2 =>
 if r2.toBool = true then
 (D 128 [.sc (.string s_)]).bind fun r3 => if hasSh (.tup [(.int .i64), (.int .i64), .bool]) r3 = true then
 some (.tup [.agg [.sc (.int .i64 1), .sc (.int .i64 0), .sc (.string (⟨#[]⟩ : ByteArray)), .sc (.int .i64 ((cel 0 r3.parts).toInt))], .sc (.int .i64 ((cel 1 r3.parts).toInt))])
 else none
 else
 if 0 < (s_.size : Int) then
 if ((bt s_ 0) == 34) = true then
 (D 129 [.sc (.string s_)]).bind fun r4 => if hasSh (.tup [.str, (.int .i64)]) r4 = true then
 some (.tup [.agg [.sc (.int .i64 2), .sc (.int .i64 0), .sc (.string ((cel 0 r4.parts).toStr)), .sc (.int .i64 0)], .sc (.int .i64 ((cel 1 r4.parts).toInt))])
 else none
 else
 f78.l0a k s_ 0 0 0 (⟨#[]⟩ : ByteArray) 0
 else none
 else none :=
 (denI_eq k _ _).trans (by kernel_rfl)
theorem f78.l0a_eq (k : Nat) (s_ : ByteArray) (n_ c0 c0_1 : Int) (c0_2 : ByteArray) (c0_3 : Int) : f78.l0a k s_ n_ c0 c0_1 c0_2 c0_3 =
 Option.bind (α := PV) (
 if decide (n_ < (s_.size : Int)) = true then
 Option.bind (α := PV) (
 Option.bind (α := PV) (
 if 0 ≤ n_ then
 if n_ < (s_.size : Int) then
 Option.bind (α := PV) (
 Option.bind (α := PV) (
 Option.bind (α := PV) (
 (D 130 [.sc (.int .u8 (bt s_ n_)), .sc (.bool (n_ == 0))]).bind fun r5 => if hasSh .bool r5 = true then
 some (.sc (.bool r5.toBool))
 else none) fun r6 =>
 some (.sc (.bool r6.toBool))) fun r7 =>
 some (.sc (.bool r7.toBool))) fun r8 =>
 some (.sc (.bool r8.toBool))
 else none
 else none) fun r9 =>
 some (.sc (.bool r9.toBool))) fun r10 =>
 some (.sc (.bool r10.toBool))
 else
 some (.sc (.bool false))) fun r11 =>
 if r11.toBool = true then
 f78.l0a k s_ (IntKind.i64.wrap (n_ + 1)) c0 c0_1 c0_2 c0_3
 else
 if decide (n_ > 0) = true then
 if 0 ≤ n_ then
 if n_ ≤ (s_.size : Int) then
 if 0 ≤ n_ then
 some (.tup [.agg [.sc (.int .i64 3), .sc (.int .i64 0), .sc (.string (s_.extract 0 n_.toNat)), .sc (.int .i64 0)], .sc (.int .i64 n_)])
 else none
 else none
 else none
 else
 (D 131 [.sc (.string (⟨#[35, 82, 69, 70, 32, 60, 62, 32, 60, 61, 32, 62, 61, 32, 43, 32, 45, 32, 42, 32, 47, 32, 94, 32, 38, 32, 61, 32, 60, 32, 62, 32, 40, 32, 41, 32, 44, 32, 58]⟩ : ByteArray))]).bind fun r12 => if hasSh (.lst 1) r12 = true then
 f78.l1a k s_ r12.len r12.at (r12.len : Int) 0 c0 c0_1 c0_2 c0_3
 else none :=
 (loopAt_eq _ _ _ _).trans (by kernel_rfl)
theorem f78.l1a_eq (k : Nat) (s_ : ByteArray) (t61n : Nat) (t61f : Nat → PV) (t62 t63 c0 c0_1 : Int) (c0_2 : ByteArray) (c0_3 : Int) : f78.l1a k s_ t61n t61f t62 t63 c0 c0_1 c0_2 c0_3 =
 if decide (t63 < t62) = true then
 if 0 ≤ t63 then
 if t63 < (t61n : Int) then
 if hasSh .str (t61f t63.toNat) = true then
 (D 132 [.sc (.string s_), .sc (.string ((t61f t63.toNat).toStr))]).bind fun r13 => if hasSh .bool r13 = true then
 if r13.toBool = true then
 some (.tup [.agg [.sc (.int .i64 4), .sc (.int .i64 0), .sc (.string ((t61f t63.toNat).toStr)), .sc (.int .i64 0)], .sc (.int .i64 (((t61f t63.toNat).toStr).size : Int))])
 else
 f78.l1a k s_ t61n t61f t62 (IntKind.i64.wrap (t63 + 1)) c0 c0_1 c0_2 c0_3
 else none
 else none
 else none
 else none
 else
 some (.tup [.agg [.sc (.int .i64 0), .sc (.int .i64 0), .sc (.string (⟨#[]⟩ : ByteArray)), .sc (.int .i64 0)], .sc (.int .i64 0)]) :=
 (loopAt_eq _ _ _ _).trans (by kernel_rfl)
-- oculus/digits.Lead
noncomputable def f128.l0a (k : Nat) (t : ByteArray) (n_ : Int) : Option PV := loopAt Tryz.prog cf ext hint k 128 [1, 1, 0, 0] ⟨([.sc (.string t)] ++ tops 4 ([.sc (.int .i64 n_)] ++ tops 57 ([]))), [], none⟩
noncomputable def f128.l1a (k : Nat) (t : ByteArray) (n_ end_ : Int) : Option PV := loopAt Tryz.prog cf ext hint k 128 [1, 1, 1, 0, 1, 0, 1, 0, 0] ⟨([.sc (.string t)] ++ tops 4 ([.sc (.int .i64 n_), .sc (.int .i64 end_)] ++ tops 56 ([]))), [], none⟩
noncomputable def f128.j2a (k : Nat) (t : ByteArray) (n_ : Int) : Option PV := gateK k (placeAt Tryz.prog cf ext hint k 128 [1, 1, 1, 1]) ⟨([.sc (.string t)] ++ tops 4 ([.sc (.int .i64 n_)] ++ tops 57 ([]))), [], none⟩
theorem f128_eq (k : Nat) (t : ByteArray) : D 128 [.sc (.string t)] =
 f128.l0a k t 0 :=
 (denI_eq k _ _).trans (by kernel_rfl)
theorem f128.l0a_eq (k : Nat) (t : ByteArray) (n_ : Int) : f128.l0a k t n_ =
 Option.bind (α := PV) (
 if decide (n_ < 30) = true then
 Option.bind (α := PV) (
 Option.bind (α := PV) (
 (D 176 [.sc (.string t), .sc (.int .i64 n_)]).bind fun r1 => if hasSh .bool r1 = true then
 some (.sc (.bool r1.toBool))
 else none) fun r2 =>
 some (.sc (.bool r2.toBool))) fun r3 =>
 some (.sc (.bool r3.toBool))
 else
 some (.sc (.bool false))) fun r4 =>
 if r4.toBool = true then
 f128.l0a k t (IntKind.i64.wrap (n_ + 1))
 else
 Option.bind (α := PV) (
 if decide (n_ > 0) = true then
 some (.sc (.bool (decide (n_ < (t.size : Int)))))
 else
 some (.sc (.bool false))) fun r5 =>
 Option.bind (α := PV) (
 if r5.toBool = true then
 Option.bind (α := PV) (
 Option.bind (α := PV) (
 if 0 ≤ n_ then
 if n_ < (t.size : Int) then
 some (.sc (.bool ((bt t n_) == 46)))
 else none
 else none) fun r6 =>
 some (.sc (.bool r6.toBool))) fun r7 =>
 some (.sc (.bool r7.toBool))
 else
 some (.sc (.bool false))) fun r8 =>
 Option.bind (α := PV) (
 if r8.toBool = true then
 Option.bind (α := PV) (
 Option.bind (α := PV) (
 Option.bind (α := PV) (
 (D 176 [.sc (.string t), .sc (.int .i64 (IntKind.i64.wrap (n_ + 1)))]).bind fun r9 => if hasSh .bool r9 = true then
 some (.sc (.bool r9.toBool))
 else none) fun r10 =>
 some (.sc (.bool r10.toBool))) fun r11 =>
 some (.sc (.bool r11.toBool))) fun r12 =>
 some (.sc (.bool r12.toBool))
 else
 some (.sc (.bool false))) fun r13 =>
 if r13.toBool = true then
 f128.l1a k t n_ (IntKind.i64.wrap (n_ + 1))
 else
 f128.j2a k t n_ :=
 (loopAt_eq _ _ _ _).trans (by kernel_rfl)
theorem f128.l1a_eq (k : Nat) (t : ByteArray) (n_ end_ : Int) : f128.l1a k t n_ end_ =
 Option.bind (α := PV) (
 if decide (end_ ≤ (IntKind.i64.wrap (n_ + 4))) = true then
 Option.bind (α := PV) (
 Option.bind (α := PV) (
 (D 176 [.sc (.string t), .sc (.int .i64 end_)]).bind fun r14 => if hasSh .bool r14 = true then
 some (.sc (.bool r14.toBool))
 else none) fun r15 =>
 some (.sc (.bool r15.toBool))) fun r16 =>
 some (.sc (.bool r16.toBool))
 else
 some (.sc (.bool false))) fun r17 =>
 if r17.toBool = true then
 f128.l1a k t n_ (IntKind.i64.wrap (end_ + 1))
 else
 f128.j2a k t end_ :=
 (loopAt_eq _ _ _ _).trans (by kernel_rfl)
theorem f128.j2a_eq (k : Nat) (t : ByteArray) (n_ : Int) : f128.j2a k t n_ =
 if 0 ≤ n_ then
 if n_ ≤ (t.size : Int) then
 if 0 ≤ n_ then
 (D 177 [.sc (.string (t.extract 0 n_.toNat))]).bind fun r18 => if hasSh (.tup [(.int .i64), .bool]) r18 = true then
 if (!((cel 1 r18.parts).toBool)) = true then
 some (.tup [.sc (.int .i64 0), .sc (.int .i64 0), .sc (.bool false)])
 else
 some (.tup [.sc (.int .i64 ((cel 0 r18.parts).toInt)), .sc (.int .i64 n_), .sc (.bool true)])
 else none
 else none
 else none
 else none :=
 (gateK_open _ _ _).trans (by kernel_rfl)
-- oculus/digits.digit
theorem f176_eq (k : Nat) (t : ByteArray) (i : Int) : D 176 [.sc (.string t), .sc (.int .i64 i)] =
 Option.bind (α := PV) (
 if decide (i < (t.size : Int)) = true then
 Option.bind (α := PV) (
 Option.bind (α := PV) (
 if 0 ≤ i then
 if i < (t.size : Int) then
 some (.sc (.bool (decide ((bt t i) ≥ 48))))
 else none
 else none) fun r1 =>
 some (.sc (.bool r1.toBool))) fun r2 =>
 some (.sc (.bool r2.toBool))
 else
 some (.sc (.bool false))) fun r3 =>
 Option.bind (α := PV) (
 if r3.toBool = true then
 Option.bind (α := PV) (
 Option.bind (α := PV) (
 if 0 ≤ i then
 if i < (t.size : Int) then
 some (.sc (.bool (decide ((bt t i) ≤ 57))))
 else none
 else none) fun r4 =>
 some (.sc (.bool r4.toBool))) fun r5 =>
 some (.sc (.bool r5.toBool))
 else
 some (.sc (.bool false))) fun r6 =>
 some (.sc (.bool r6.toBool)) :=
 (denI_eq k _ _).trans (by kernel_rfl)
-- oculus/digits.Read
noncomputable def f177.l0a (k : Nat) (minus : Bool) (x_ y t53 t54 : Int) : Option PV := loopAt Tryz.prog cf ext hint k 177 [1, 1, 1, 1, 1, 1, 1, 0, 1, 0] ⟨(tops 5 ([.sc (.bool minus), .top, .top, .top, .sc (.int .i64 x_), .top, .sc (.int .i64 y)] ++ tops 41 ([.sc (.int .i64 t53), .sc (.int .i64 t54)] ++ tops 10 ([])))), [], none⟩
theorem f177_eq (k : Nat) (t : ByteArray) : D 177 [.sc (.string t)] =
 (D 47 [.sc (.string t), .sc (.string (⟨#[45]⟩ : ByteArray))]).bind fun r1 => if hasSh (.tup [.str, .bool]) r1 = true then
 if decide ((t.size : Int) > 40) = true then
 some (.tup [.sc (.int .i64 0), .sc (.bool false)])
 else
 (D 184 [.sc (.string ((cel 0 r1.parts).toStr)), .sc (.string (⟨#[46]⟩ : ByteArray))]).bind fun r2 => if hasSh (.tup [.str, .str, .bool]) r2 = true then
 (D 204 [.sc (.string ((cel 0 r2.parts).toStr))]).bind fun r3 => if hasSh (.tup [(.int .i64), .bool]) r3 = true then
 (D 204 [.sc (.string ((cel 1 r2.parts).toStr))]).bind fun r4 => if hasSh (.tup [(.int .i64), .bool]) r4 = true then
 Option.bind (α := PV) (
 if (!((cel 1 r3.parts).toBool)) = true then
 some (.sc (.bool true))
 else
 Option.bind (α := PV) (
 Option.bind (α := PV) (
 if (cel 2 r2.parts).toBool = true then
 Option.bind (α := PV) (
 Option.bind (α := PV) (
 Option.bind (α := PV) (
 if (!((cel 1 r4.parts).toBool)) = true then
 some (.sc (.bool true))
 else
 some (.sc (.bool (decide ((((cel 1 r2.parts).toStr).size : Int) > 4))))) fun r5 =>
 some (.sc (.bool r5.toBool))) fun r6 =>
 some (.sc (.bool r6.toBool))) fun r7 =>
 some (.sc (.bool r7.toBool))
 else
 some (.sc (.bool false))) fun r8 =>
 some (.sc (.bool r8.toBool))) fun r9 =>
 some (.sc (.bool r9.toBool))) fun r10 =>
 if r10.toBool = true then
 some (.tup [.sc (.int .i64 0), .sc (.bool false)])
 else
 f177.l0a k ((cel 1 r1.parts).toBool) ((cel 0 r3.parts).toInt) ((cel 0 r4.parts).toInt) (IntKind.i64.wrap ((4 : Int) - (((cel 1 r2.parts).toStr).size : Int))) 0
 else none
 else none
 else none
 else none :=
 (denI_eq k _ _).trans (by kernel_rfl)
theorem f177.l0a_eq (k : Nat) (minus : Bool) (x_ y t53 t54 : Int) : f177.l0a k minus x_ y t53 t54 =
 if decide (t54 < t53) = true then
 f177.l0a k minus x_ (IntKind.i64.wrap (y * 10)) t53 (IntKind.i64.wrap (t54 + 1))
 else
 (D 205 [.sc (.int .i64 x_), .sc (.int .i64 y), .sc (.bool minus)]).bind fun r11 => if hasSh (.tup [(.int .i64), .bool]) r11 = true then
 some (.tup [.sc (.int .i64 ((cel 0 r11.parts).toInt)), .sc (.bool ((cel 1 r11.parts).toBool))])
 else none :=
 (loopAt_eq _ _ _ _).trans (by kernel_rfl)
end ET
end Go.Den
