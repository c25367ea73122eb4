import Derived.Test.YtkhbkbkambflbaaGreatDoorETh
import Derived.KernelRfl
set_option maxRecDepth 100000
set_option linter.unusedVariables false
namespace Go.Den
open Go Go.Proofs
namespace ET
-- oculus/oculusref01.Digits
noncomputable def f59.l0a (k : Nat) (n_ : Int) (s_ : ByteArray) : Option PV := loopAt Tryz.prog cf ext hint k 59 [1, 1, 0, 1, 0] ⟨([.sc (.int .i64 n_), .top, .top, .sc (.string s_)] ++ tops 21 ([])), [], none⟩
theorem f59_eq (k : Nat) (n_ : Int) : D 59 [.sc (.int .i64 n_)] =
 if ([.sc (.int .u8 (IntKind.u8.wrap (IntKind.i64.wrap ((48 : Int) + (n_.tmod 10)))))] : List PV).all (hasSh (.int .u8)) = true then
 f59.l0a k (IntKind.i64.wrap (n_.tdiv 10)) (bytesOf ([.sc (.int .u8 (IntKind.u8.wrap (IntKind.i64.wrap ((48 : Int) + (n_.tmod 10)))))] : List PV))
 else none :=
 (denI_eq k _ _).trans (by kernel_rfl)
theorem f59.l0a_eq (k : Nat) (n_ : Int) (s_ : ByteArray) : f59.l0a k n_ s_ =
 if decide (n_ > 0) = true then
 if ([.sc (.int .u8 (IntKind.u8.wrap (IntKind.i64.wrap ((48 : Int) + (n_.tmod 10)))))] : List PV).all (hasSh (.int .u8)) = true then
 if (bytesOf ([.sc (.int .u8 (IntKind.u8.wrap (IntKind.i64.wrap ((48 : Int) + (n_.tmod 10)))))] : List PV)).size + s_.size ≤ 9223372036854775807 then
 f59.l0a k (IntKind.i64.wrap (n_.tdiv 10)) ((bytesOf ([.sc (.int .u8 (IntKind.u8.wrap (IntKind.i64.wrap ((48 : Int) + (n_.tmod 10)))))] : List PV)) ++ s_)
 else none
 else none
 else
 some (.sc (.string s_)) :=
 (loopAt_eq _ _ _ _).trans (by kernel_rfl)
-- oculus/oculusref02.Top
theorem f196_eq (k : Nat)  : D 196 [] =
 (D 222 []).bind fun r1 => if hasSh (.int .u64) r1 = true then
 some (.agg [.sc (.int .i64 15), .sc (.int .u64 r1.toInt)])
 else none :=
 (denI_eq k _ _).trans (by kernel_rfl)
-- oculus/oculusref02.Every
noncomputable def f222.l0a (k : Nat) (s_ c : Int) : Option PV := loopAt Tryz.prog cf ext hint k 222 [1, 1, 0, 1, 0] ⟨([.top, .sc (.int .u64 s_), .sc (.int .i64 c)] ++ tops 8 ([])), [], none⟩
theorem f222_eq (k : Nat)  : D 222 [] =
 f222.l0a k 0 0 :=
 (denI_eq k _ _).trans (by kernel_rfl)
theorem f222.l0a_eq (k : Nat) (s_ c : Int) : f222.l0a k s_ c =
 if decide (c < 64) = true then
 f222.l0a k (IntKind.u64.wrap ((IntKind.u64.wrap (s_ * 2)) + 1)) (IntKind.i64.wrap (c + 1))
 else
 some (.sc (.int .u64 s_)) :=
 (loopAt_eq _ _ _ _).trans (by kernel_rfl)
-- oculus/oculusref01.Parse
noncomputable def f197.l0a (k : Nat) (t : ByteArray) (s_ n_ i c0 : Int) (c0_1 : Bool) : Option PV := loopAt Tryz.prog cf ext hint k 197 [1, 1, 1, 0, 1, 0] ⟨([.sc (.string t), .top, .ptr 0 0, .sc (.int .u64 s_), .sc (.int .i64 n_), .sc (.int .i64 i)] ++ tops 52 ([])), [.cells 221 [.sc (.int .u64 c0), .sc (.bool c0_1)]], none⟩
theorem f197_eq (k : Nat) (t : ByteArray) : D 197 [.sc (.string t)] =
 f197.l0a k t 0 (-1) 0 0 false :=
 (denI_eq k _ _).trans (by kernel_rfl)
theorem f197.l0a_eq (k : Nat) (t : ByteArray) (s_ n_ i c0 : Int) (c0_1 : Bool) : f197.l0a k t s_ n_ i c0 c0_1 =
 if decide (i ≤ (t.size : Int)) = true then
 Option.bind (α := PV) (
 if decide (i < (t.size : Int)) = true then
 Option.bind (α := PV) (
 Option.bind (α := PV) (
 if 0 ≤ i then
 if i < (t.size : Int) then
 some (.sc (.bool (decide ((bt t i) ≥ 48))))
 else none
 else none) fun r1 =>
 some (.sc (.bool r1.toBool))) fun r2 =>
 some (.sc (.bool r2.toBool))
 else
 some (.sc (.bool false))) fun r3 =>
 Option.bind (α := PV) (
 if r3.toBool = true then
 Option.bind (α := PV) (
 Option.bind (α := PV) (
 if 0 ≤ i then
 if i < (t.size : Int) then
 some (.sc (.bool (decide ((bt t i) ≤ 57))))
 else none
 else none) fun r4 =>
 some (.sc (.bool r4.toBool))) fun r5 =>
 some (.sc (.bool r5.toBool))
 else
 some (.sc (.bool false))) fun r6 =>
 Option.bind (α := PV) (
 if r6.toBool = true then
 some (.sc (.bool (decide (n_ < 100))))
 else
 some (.sc (.bool false))) fun r7 =>
 if r7.toBool = true then
 if 0 ≤ i then
 if i < (t.size : Int) then
 f197.l0a k t s_ (IntKind.i64.wrap ((IntKind.i64.wrap ((IntKind.i64.wrap ((if 0 > n_ then 0 else n_) * 10)) + (IntKind.i64.wrap (bt t i)))) - 48)) (IntKind.i64.wrap (i + 1)) c0 c0_1
 else none
 else none
 else
 Option.bind (α := PV) (
 if decide (n_ ≥ 0) = true then
 some (.sc (.bool (decide (n_ < 64))))
 else
 some (.sc (.bool false))) fun r8 =>
 if r8.toBool = true then
 (D 224 [.sc (.int .i64 n_)]).bind fun r9 => if hasSh (.int .u64) r9 = true then
 (D 223 [.sc (.int .u64 s_), .sc (.int .u64 r9.toInt)]).bind fun r10 => if hasSh (.int .u64) r10 = true then
 f197.l0a k t r10.toInt (-1) (IntKind.i64.wrap (i + 1)) c0 c0_1
 else none
 else none
 else
 f197.l0a k t s_ (-1) (IntKind.i64.wrap (i + 1)) c0 c0_1
 else
 (D 225 [.sc (.int .u64 s_)]).bind fun r11 => if hasSh .str r11 = true then
 if (!(r11.toStr.toList == t.toList)) = true then
 some (.agg [.sc (.int .u64 0), .sc (.bool false)])
 else
 some (.agg [.sc (.int .u64 s_), .sc (.bool true)])
 else none :=
 (loopAt_eq _ _ _ _).trans (by kernel_rfl)
-- oculus/oculusref01.Join
noncomputable def f223.l0a (k : Nat) (a b s_ c : Int) : Option PV := loopAt Tryz.prog cf ext hint k 223 [1, 1, 0, 1, 0] ⟨([.sc (.int .u64 a), .sc (.int .u64 b), .top, .top, .top, .sc (.int .u64 s_), .sc (.int .i64 c)] ++ tops 17 ([])), [], none⟩
theorem f223_eq (k : Nat) (a b : Int) : D 223 [.sc (.int .u64 a), .sc (.int .u64 b)] =
 f223.l0a k a b 0 0 :=
 (denI_eq k _ _).trans (by kernel_rfl)
theorem f223.l0a_eq (k : Nat) (a b s_ c : Int) : f223.l0a k a b s_ c =
 if decide (c < 64) = true then
 (D 249 [.sc (.int .u64 a), .sc (.int .i64 c)]).bind fun r1 => if hasSh .bool r1 = true then
 Option.bind (α := PV) (
 if r1.toBool = true then
 some (.sc (.bool true))
 else
 Option.bind (α := PV) (
 Option.bind (α := PV) (
 (D 249 [.sc (.int .u64 b), .sc (.int .i64 c)]).bind fun r2 => if hasSh .bool r2 = true then
 some (.sc (.bool r2.toBool))
 else none) fun r3 =>
 some (.sc (.bool r3.toBool))) fun r4 =>
 some (.sc (.bool r4.toBool))) fun r5 =>
 if r5.toBool = true then
 (D 224 [.sc (.int .i64 c)]).bind fun r6 => if hasSh (.int .u64) r6 = true then
 f223.l0a k a b (IntKind.u64.wrap (s_ + r6.toInt)) (IntKind.i64.wrap (c + 1))
 else none
 else
 f223.l0a k a b s_ (IntKind.i64.wrap (c + 1))
 else none
 else
 some (.sc (.int .u64 s_)) :=
 (loopAt_eq _ _ _ _).trans (by kernel_rfl)
-- oculus/oculusref01.One
noncomputable def f224.l0a (k : Nat) (c s_ i : Int) : Option PV := loopAt Tryz.prog cf ext hint k 224 [1, 1, 0, 1, 0] ⟨([.sc (.int .i64 c), .top, .top, .sc (.int .u64 s_), .sc (.int .i64 i)] ++ tops 8 ([])), [], none⟩
theorem f224_eq (k : Nat) (c : Int) : D 224 [.sc (.int .i64 c)] =
 f224.l0a k c 1 0 :=
 (denI_eq k _ _).trans (by kernel_rfl)
theorem f224.l0a_eq (k : Nat) (c s_ i : Int) : f224.l0a k c s_ i =
 if decide (i < c) = true then
 f224.l0a k c (IntKind.u64.wrap (s_ * 2)) (IntKind.i64.wrap (i + 1))
 else
 some (.sc (.int .u64 s_)) :=
 (loopAt_eq _ _ _ _).trans (by kernel_rfl)
-- oculus/oculusref01.Bit
noncomputable def f249.l0a (k : Nat) (s_ c i : Int) : Option PV := loopAt Tryz.prog cf ext hint k 249 [1, 1, 0, 1, 0] ⟨([.sc (.int .u64 s_), .sc (.int .i64 c), .top, .top, .top, .sc (.int .i64 i)] ++ tops 16 ([])), [], none⟩
theorem f249_eq (k : Nat) (s_ c : Int) : D 249 [.sc (.int .u64 s_), .sc (.int .i64 c)] =
 Option.bind (α := PV) (
 if decide (c < 0) = true then
 some (.sc (.bool true))
 else
 some (.sc (.bool (decide (c > 63))))) fun r1 =>
 if r1.toBool = true then
 some (.sc (.bool false))
 else
 f249.l0a k s_ c 0 :=
 (denI_eq k _ _).trans (by kernel_rfl)
theorem f249.l0a_eq (k : Nat) (s_ c i : Int) : f249.l0a k s_ c i =
 if decide (i < c) = true then
 f249.l0a k (IntKind.u64.wrap (s_.tdiv 2)) c (IntKind.i64.wrap (i + 1))
 else
 some (.sc (.bool ((s_.tmod 2) == 1))) :=
 (loopAt_eq _ _ _ _).trans (by kernel_rfl)
-- oculus/oculusref01.Text
noncomputable def f225.l0a (k : Nat) (out : ByteArray) (ln : Nat) (lf : Nat → PV) (i : Int) : Option PV := loopAt Tryz.prog cf ext hint k 225 [1, 1, 1, 0, 1, 0] ⟨([.top, .top, .top, .sc (.string out), .lst 1 ln lf, .sc (.int .i64 i)] ++ tops 20 ([])), [], none⟩
noncomputable def f225.j1a (k : Nat) (out : ByteArray) (ln : Nat) (lf : Nat → PV) (i : Int) : Option PV := gateK k (placeAt Tryz.prog cf ext hint k 225 [1, 1, 1, 0, 1, 0, 0, 1, 0, 0, 1]) ⟨([.top, .top, .top, .sc (.string out), .lst 1 ln lf, .sc (.int .i64 i)] ++ tops 20 ([])), [], none⟩
theorem f225_eq (k : Nat) (s_ : Int) : D 225 [.sc (.int .u64 s_)] =
 (D 250 [.sc (.int .u64 s_)]).bind fun r1 => if hasSh (.lst 1) r1 = true then
 f225.l0a k (⟨#[]⟩ : ByteArray) r1.len r1.at 0
 else none :=
 (denI_eq k _ _).trans (by kernel_rfl)
theorem f225.l0a_eq (k : Nat) (out : ByteArray) (ln : Nat) (lf : Nat → PV) (i : Int) : f225.l0a k out ln lf i =
 if decide (i < (ln : Int)) = true then
 if decide (i > 0) = true then
 if out.size + 1 ≤ 9223372036854775807 then
 f225.j1a k (out ++ (⟨#[44]⟩ : ByteArray)) ln lf i
 else none
 else
 f225.j1a k out ln lf i
 else
 some (.sc (.string out)) :=
 (loopAt_eq _ _ _ _).trans (by kernel_rfl)
theorem f225.j1a_eq (k : Nat) (out : ByteArray) (ln : Nat) (lf : Nat → PV) (i : Int) : f225.j1a k out ln lf i =
 if 0 ≤ i then
 if i < (ln : Int) then
 if hasSh (.int .i64) (lf i.toNat) = true then
 (D 59 [.sc (.int .i64 ((lf i.toNat).toInt))]).bind fun r2 => if hasSh .str r2 = true then
 if out.size + r2.toStr.size ≤ 9223372036854775807 then
 f225.l0a k (out ++ r2.toStr) ln lf (IntKind.i64.wrap (i + 1))
 else none
 else none
 else none
 else none
 else none :=
 (gateK_open _ _ _).trans (by kernel_rfl)
-- oculus/oculusref01.List
noncomputable def f250.l0a (k : Nat) (s_ c : Int) : Option PV := loopAt Tryz.prog cf ext hint k 250 [1, 1, 0, 1, 0] ⟨([.sc (.int .u64 s_), .top, .top, .nils, .sc (.int .i64 c)] ++ tops 12 ([])), [], none⟩
noncomputable def f250.l0b (k : Nat) (s_ c : Int) (out : List PV) : Option PV := loopAt Tryz.prog cf ext hint k 250 [1, 1, 0, 1, 0] ⟨([.sc (.int .u64 s_), .top, .top, .buf 0 0, .sc (.int .i64 c)] ++ tops 12 ([])), [.buf 3 0 out], none⟩
theorem f250_eq (k : Nat) (s_ : Int) : D 250 [.sc (.int .u64 s_)] =
 f250.l0a k s_ 0 :=
 (denI_eq k _ _).trans (by kernel_rfl)
theorem f250.l0a_eq (k : Nat) (s_ c : Int) : f250.l0a k s_ c =
 if decide (c < 64) = true then
 (D 249 [.sc (.int .u64 s_), .sc (.int .i64 c)]).bind fun r1 => if hasSh .bool r1 = true then
 if r1.toBool = true then
 if ([.sc (.int .i64 c)] : List PV).length * 8 ≤ 140737488355328 ∧ ([.sc (.int .i64 c)] : List PV).length ≤ 140737488355328 then
 f250.l0b k s_ (IntKind.i64.wrap (c + 1)) ([.sc (.int .i64 c)] : List PV)
 else none
 else
 f250.l0a k s_ (IntKind.i64.wrap (c + 1))
 else none
 else
 some (.lst 1 0 (fun _ => .top)) :=
 (loopAt_eq _ _ _ _).trans (by kernel_rfl)
theorem f250.l0b_eq (k : Nat) (s_ c : Int) (out : List PV) : f250.l0b k s_ c out =
 if decide (c < 64) = true then
 (D 249 [.sc (.int .u64 s_), .sc (.int .i64 c)]).bind fun r2 => if hasSh .bool r2 = true then
 if r2.toBool = true then
 if (out.length + ([.sc (.int .i64 c)] : List PV).length) * 8 ≤ 140737488355328 ∧ out.length + ([.sc (.int .i64 c)] : List PV).length ≤ 140737488355328 then
 f250.l0b k s_ (IntKind.i64.wrap (c + 1)) (out ++ ([.sc (.int .i64 c)] : List PV))
 else none
 else
 f250.l0b k s_ (IntKind.i64.wrap (c + 1)) out
 else none
 else
 some (frozen 1 out) :=
 (loopAt_eq _ _ _ _).trans (by kernel_rfl)
-- oculus/oculusref02.Text
theorem f198_eq (k : Nat) (l l_1 : Int) : D 198 [.agg [.sc (.int .i64 l), .sc (.int .u64 l_1)]] =
 Option.bind (α := PV) (
 if decide (l < 0) = true then
 some (.sc (.bool true))
 else
 some (.sc (.bool (decide (l > 15))))) fun r1 =>
 if r1.toBool = true then
 some (.sc (.string (⟨#[]⟩ : ByteArray)))
 else
 (D 196 []).bind fun r2 => if hasSh (.agg [(.int .i64), (.int .u64)]) r2 = true then
 if ((l == ((cel 0 r2.cells).toInt)) && ((l_1 == ((cel 1 r2.cells).toInt)) && true)) = true then
 some (.sc (.string (⟨#[116, 111, 112]⟩ : ByteArray)))
 else
 (D 59 [.sc (.int .i64 l)]).bind fun r3 => if hasSh .str r3 = true then
 if (l_1 != 0) = true then
 if r3.toStr.size + 1 ≤ 9223372036854775807 then
 (D 225 [.sc (.int .u64 l_1)]).bind fun r4 => if hasSh .str r4 = true then
 if (r3.toStr ++ (⟨#[58]⟩ : ByteArray)).size + r4.toStr.size ≤ 9223372036854775807 then
 some (.sc (.string ((r3.toStr ++ (⟨#[58]⟩ : ByteArray)) ++ r4.toStr)))
 else none
 else none
 else none
 else
 some (.sc (.string r3.toStr))
 else none
 else none :=
 (denI_eq k _ _).trans (by kernel_rfl)
-- oculus/oculusref19.Fits
theorem f117_eq (k : Nat) (fn n_ : Int) : D 117 [.sc (.int .i64 fn), .sc (.int .i64 n_)] =
 Option.bind (α := PV) (
 if decide (fn < 1) = true then
 some (.sc (.bool true))
 else
 some (.sc (.bool (decide (fn > 78))))) fun r1 =>
 if r1.toBool = true then
 some (.sc (.bool false))
 else
 (D 165 []).bind fun r2 => if hasSh (.lst 1) r2 = true then
 if 0 ≤ IntKind.i64.wrap (fn - 1) then
 if IntKind.i64.wrap (fn - 1) < (r2.len : Int) then
 if hasSh .str (r2.at (IntKind.i64.wrap (fn - 1)).toNat) = true then
 if 0 < (((r2.at (IntKind.i64.wrap (fn - 1)).toNat).toStr).size : Int) then
 Option.bind (α := PV) (
 if decide (n_ ≥ (IntKind.i64.wrap ((IntKind.i64.wrap (bt ((r2.at (IntKind.i64.wrap (fn - 1)).toNat).toStr) 0)) - 48))) = true then
 Option.bind (α := PV) (
 Option.bind (α := PV) (
 if 1 < (((r2.at (IntKind.i64.wrap (fn - 1)).toNat).toStr).size : Int) then
 some (.sc (.bool (decide (n_ ≤ (IntKind.i64.wrap ((IntKind.i64.wrap (bt ((r2.at (IntKind.i64.wrap (fn - 1)).toNat).toStr) 1)) - 48))))))
 else none) fun r3 =>
 some (.sc (.bool r3.toBool))) fun r4 =>
 some (.sc (.bool r4.toBool))
 else
 some (.sc (.bool false))) fun r5 =>
 some (.sc (.bool r5.toBool))
 else none
 else none
 else none
 else none
 else none :=
 (denI_eq k _ _).trans (by kernel_rfl)
-- oculus/oculusref19.Rows
theorem f165_eq (k : Nat)  : D 165 [] =
 some (frozen 1 ([.sc (.string (⟨#[49, 49, 118]⟩ : ByteArray)), .sc (.string (⟨#[49, 56, 101]⟩ : ByteArray)), .sc (.string (⟨#[49, 56, 108]⟩ : ByteArray)), .sc (.string (⟨#[50, 50, 114, 118]⟩ : ByteArray)), .sc (.string (⟨#[50, 50, 118]⟩ : ByteArray)), .sc (.string (⟨#[49, 49, 118]⟩ : ByteArray)), .sc (.string (⟨#[50, 56, 101]⟩ : ByteArray)), .sc (.string (⟨#[49, 49, 118]⟩ : ByteArray)), .sc (.string (⟨#[49, 49, 110]⟩ : ByteArray)), .sc (.string (⟨#[49, 49, 110]⟩ : ByteArray)), .sc (.string (⟨#[50, 50, 118]⟩ : ByteArray)), .sc (.string (⟨#[49, 56, 108]⟩ : ByteArray)), .sc (.string (⟨#[49, 56, 108]⟩ : ByteArray)), .sc (.string (⟨#[49, 56, 108]⟩ : ByteArray)), .sc (.string (⟨#[49, 56, 108]⟩ : ByteArray)), .sc (.string (⟨#[50, 50, 114, 118]⟩ : ByteArray)), .sc (.string (⟨#[50, 50, 101, 116]⟩ : ByteArray)), .sc (.string (⟨#[49, 49, 118]⟩ : ByteArray)), .sc (.string (⟨#[50, 50, 118]⟩ : ByteArray)), .sc (.string (⟨#[49, 49, 118]⟩ : ByteArray)), .sc (.string (⟨#[50, 50, 118]⟩ : ByteArray)), .sc (.string (⟨#[50, 50, 118]⟩ : ByteArray)), .sc (.string (⟨#[50, 50, 118]⟩ : ByteArray)), .sc (.string (⟨#[51, 51, 118, 114, 118]⟩ : ByteArray)), .sc (.string (⟨#[50, 51, 101]⟩ : ByteArray)), .sc (.string (⟨#[50, 50, 101]⟩ : ByteArray)), .sc (.string (⟨#[50, 51, 114, 118]⟩ : ByteArray)), .sc (.string (⟨#[49, 49, 118]⟩ : ByteArray)), .sc (.string (⟨#[49, 49, 118]⟩ : ByteArray)), .sc (.string (⟨#[49, 49, 118]⟩ : ByteArray)), .sc (.string (⟨#[49, 49, 118]⟩ : ByteArray)), .sc (.string (⟨#[49, 49, 118]⟩ : ByteArray)), .sc (.string (⟨#[49, 49, 118]⟩ : ByteArray)), .sc (.string (⟨#[50, 50, 114, 118]⟩ : ByteArray)), .sc (.string (⟨#[50, 50, 118]⟩ : ByteArray)), .sc (.string (⟨#[50, 50, 118]⟩ : ByteArray)), .sc (.string (⟨#[49, 49, 118]⟩ : ByteArray)), .sc (.string (⟨#[49, 49, 118]⟩ : ByteArray)), .sc (.string (⟨#[50, 50, 118, 114]⟩ : ByteArray)), .sc (.string (⟨#[49, 56, 108]⟩ : ByteArray)), .sc (.string (⟨#[49, 56, 108]⟩ : ByteArray)), .sc (.string (⟨#[51, 51, 118]⟩ : ByteArray)), .sc (.string (⟨#[49, 56, 108]⟩ : ByteArray)), .sc (.string (⟨#[50, 50, 118]⟩ : ByteArray)), .sc (.string (⟨#[49, 56, 108]⟩ : ByteArray)), .sc (.string (⟨#[48, 48]⟩ : ByteArray)), .sc (.string (⟨#[49, 49, 118]⟩ : ByteArray)), .sc (.string (⟨#[49, 49, 118]⟩ : ByteArray)), .sc (.string (⟨#[49, 56, 101]⟩ : ByteArray)), .sc (.string (⟨#[50, 50, 118]⟩ : ByteArray)), .sc (.string (⟨#[49, 56, 108]⟩ : ByteArray)), .sc (.string (⟨#[49, 49, 118]⟩ : ByteArray)), .sc (.string (⟨#[50, 50, 118]⟩ : ByteArray)), .sc (.string (⟨#[50, 50, 118, 114]⟩ : ByteArray)), .sc (.string (⟨#[50, 50, 118]⟩ : ByteArray)), .sc (.string (⟨#[49, 49, 118]⟩ : ByteArray)), .sc (.string (⟨#[50, 50, 118]⟩ : ByteArray)), .sc (.string (⟨#[50, 50, 118]⟩ : ByteArray)), .sc (.string (⟨#[50, 50, 118]⟩ : ByteArray)), .sc (.string (⟨#[50, 50, 118]⟩ : ByteArray)), .sc (.string (⟨#[49, 49, 110]⟩ : ByteArray)), .sc (.string (⟨#[49, 49, 110]⟩ : ByteArray)), .sc (.string (⟨#[49, 49, 118]⟩ : ByteArray)), .sc (.string (⟨#[50, 50, 114, 118]⟩ : ByteArray)), .sc (.string (⟨#[49, 49, 118]⟩ : ByteArray)), .sc (.string (⟨#[51, 51, 118]⟩ : ByteArray)), .sc (.string (⟨#[49, 56, 108]⟩ : ByteArray)), .sc (.string (⟨#[50, 50, 114, 118]⟩ : ByteArray)), .sc (.string (⟨#[50, 50, 114]⟩ : ByteArray)), .sc (.string (⟨#[49, 56, 108]⟩ : ByteArray)), .sc (.string (⟨#[51, 56, 101]⟩ : ByteArray)), .sc (.string (⟨#[50, 50, 118]⟩ : ByteArray)), .sc (.string (⟨#[49, 49, 118]⟩ : ByteArray)), .sc (.string (⟨#[49, 49, 118]⟩ : ByteArray)), .sc (.string (⟨#[49, 49, 118]⟩ : ByteArray)), .sc (.string (⟨#[49, 49, 118]⟩ : ByteArray)), .sc (.string (⟨#[51, 51, 118, 114, 118]⟩ : ByteArray)), .sc (.string (⟨#[49, 56, 108]⟩ : ByteArray))] : List PV)) :=
 (denI_eq k _ _).trans (by kernel_rfl)
-- oculus/oculusref19.Kind
theorem f118_eq (k : Nat) (fn i : Int) : D 118 [.sc (.int .i64 fn), .sc (.int .i64 i)] =
 Option.bind (α := PV) (
 if decide (fn < 1) = true then
 some (.sc (.bool true))
 else
 some (.sc (.bool (decide (fn > 78))))) fun r1 =>
 Option.bind (α := PV) (
 if r1.toBool = true then
 some (.sc (.bool true))
 else
 some (.sc (.bool (decide (i < 0))))) fun r2 =>
 if r2.toBool = true then
 some (.sc (.int .u8 0))
 else
 (D 165 []).bind fun r3 => if hasSh (.lst 1) r3 = true then
 if 0 ≤ IntKind.i64.wrap (fn - 1) then
 if IntKind.i64.wrap (fn - 1) < (r3.len : Int) then
 if hasSh .str (r3.at (IntKind.i64.wrap (fn - 1)).toNat) = true then
 if 1 < (((r3.at (IntKind.i64.wrap (fn - 1)).toNat).toStr).size : Int) then
 if decide (i ≥ (IntKind.i64.wrap ((IntKind.i64.wrap (bt ((r3.at (IntKind.i64.wrap (fn - 1)).toNat).toStr) 1)) - 48))) = true then
 some (.sc (.int .u8 0))
 else
 if decide ((IntKind.i64.wrap ((2 : Int) + i)) < (((r3.at (IntKind.i64.wrap (fn - 1)).toNat).toStr).size : Int)) = true then
 if 0 ≤ IntKind.i64.wrap ((2 : Int) + i) then
 if IntKind.i64.wrap ((2 : Int) + i) < (((r3.at (IntKind.i64.wrap (fn - 1)).toNat).toStr).size : Int) then
 some (.sc (.int .u8 (bt ((r3.at (IntKind.i64.wrap (fn - 1)).toNat).toStr) (IntKind.i64.wrap ((2 : Int) + i)))))
 else none
 else none
 else
 if 0 ≤ IntKind.i64.wrap ((((r3.at (IntKind.i64.wrap (fn - 1)).toNat).toStr).size : Int) - 1) then
 if IntKind.i64.wrap ((((r3.at (IntKind.i64.wrap (fn - 1)).toNat).toStr).size : Int) - 1) < (((r3.at (IntKind.i64.wrap (fn - 1)).toNat).toStr).size : Int) then
 some (.sc (.int .u8 (bt ((r3.at (IntKind.i64.wrap (fn - 1)).toNat).toStr) (IntKind.i64.wrap ((((r3.at (IntKind.i64.wrap (fn - 1)).toNat).toStr).size : Int) - 1)))))
 else none
 else none
 else none
 else none
 else none
 else none
 else none :=
 (denI_eq k _ _).trans (by kernel_rfl)
-- oculus/oculusref24.words
noncomputable def f54.l0a (k : Nat) (s_ : ByteArray) (i n_ n__1 n__2 n__3 : Int) (n__4 : ByteArray) (n__5 n__6 : Int) (n__7 n__8 : Bool) (n__9 n__10 : Int) (n__11 n__12 : Bool) (nn : Nat) (nf : Nat → PV) : Option PV := loopAt Tryz.prog cf ext hint k 54 [1, 1, 1, 0, 1, 0] ⟨([.top, .ptr 0 0, .top, .top, .sc (.string s_), .sc (.int .i64 i)] ++ tops 108 ([])), [.cells 29 [.sc (.int .i64 n_), .sc (.int .i64 n__1), .sc (.int .i64 n__2), .sc (.int .i64 n__3), .sc (.string n__4), .sc (.int .i64 n__5), .sc (.int .i64 n__6), .sc (.bool n__7), .sc (.bool n__8), .sc (.int .i64 n__9), .sc (.int .i64 n__10), .sc (.bool n__11), .sc (.bool n__12), .lst 14 nn nf]], none⟩
noncomputable def f54.j1a (k : Nat) (s_ : ByteArray) (i n_ n__1 n__2 n__3 : Int) (n__4 : ByteArray) (n__5 n__6 : Int) (n__7 n__8 : Bool) (n__9 n__10 : Int) (n__11 n__12 : Bool) (nn : Nat) (nf : Nat → PV) : Option PV := gateK k (placeAt Tryz.prog cf ext hint k 54 [1, 1, 1, 0, 1, 0, 0, 1, 0, 0, 1]) ⟨([.top, .ptr 0 0, .top, .top, .sc (.string s_), .sc (.int .i64 i)] ++ tops 108 ([])), [.cells 29 [.sc (.int .i64 n_), .sc (.int .i64 n__1), .sc (.int .i64 n__2), .sc (.int .i64 n__3), .sc (.string n__4), .sc (.int .i64 n__5), .sc (.int .i64 n__6), .sc (.bool n__7), .sc (.bool n__8), .sc (.int .i64 n__9), .sc (.int .i64 n__10), .sc (.bool n__11), .sc (.bool n__12), .lst 14 nn nf]], none⟩
theorem f54_eq (k : Nat) (n_ n__1 n__2 n__3 : Int) (n__4 : ByteArray) (n__5 n__6 : Int) (n__7 n__8 : Bool) (n__9 n__10 : Int) (n__11 n__12 : Bool) (nn : Nat) (nf : Nat → PV) : D 54 [.agg [.sc (.int .i64 n_), .sc (.int .i64 n__1), .sc (.int .i64 n__2), .sc (.int .i64 n__3), .sc (.string n__4), .sc (.int .i64 n__5), .sc (.int .i64 n__6), .sc (.bool n__7), .sc (.bool n__8), .sc (.int .i64 n__9), .sc (.int .i64 n__10), .sc (.bool n__11), .sc (.bool n__12), .lst 14 nn nf]] =
 if (n_ == 1) = true then
 if (n__2 == 1) = true then
 (D 106 [.sc (.int .i64 n__3)]).bind fun r1 => if hasSh .str r1 = true then
 some (.sc (.string r1.toStr))
 else none
 else
 (D 107 [.agg [.sc (.int .i64 n__2), .sc (.int .i64 n__3), .sc (.string n__4)]]).bind fun r2 => if hasSh .str r2 = true then
 some (.sc (.string r2.toStr))
 else none
 else
 if (n_ == 2) = true then
 some (.sc (.string (⟨#[35, 82, 69, 70]⟩ : ByteArray)))
 else
 if (n_ == 3) = true then
 (D 25 [.agg [.sc (.int .i64 n__5), .sc (.int .i64 n__6), .sc (.bool n__7), .sc (.bool n__8)]]).bind fun r3 => if hasSh .str r3 = true then
 some (.sc (.string r3.toStr))
 else none
 else
 if (n_ == 4) = true then
 (D 25 [.agg [.sc (.int .i64 n__5), .sc (.int .i64 n__6), .sc (.bool n__7), .sc (.bool n__8)]]).bind fun r4 => if hasSh .str r4 = true then
 if r4.toStr.size + 1 ≤ 9223372036854775807 then
 (D 25 [.agg [.sc (.int .i64 n__9), .sc (.int .i64 n__10), .sc (.bool n__11), .sc (.bool n__12)]]).bind fun r5 => if hasSh .str r5 = true then
 if (r4.toStr ++ (⟨#[58]⟩ : ByteArray)).size + r5.toStr.size ≤ 9223372036854775807 then
 some (.sc (.string ((r4.toStr ++ (⟨#[58]⟩ : ByteArray)) ++ r5.toStr)))
 else none
 else none
 else none
 else none
 else
 if (n_ == 5) = true then
 if 0 < (nn : Int) then
 if hasSh (.agg [(.int .i64), (.int .i64), (.int .i64), (.int .i64), .str, (.int .i64), (.int .i64), .bool, .bool, (.int .i64), (.int .i64), .bool, .bool, (.lst 14)]) (nf 0) = true then
 if 0 < (nn : Int) then
 if hasSh (.agg [(.int .i64), (.int .i64), (.int .i64), (.int .i64), .str, (.int .i64), (.int .i64), .bool, .bool, (.int .i64), (.int .i64), .bool, .bool, (.lst 14)]) (nf 0) = true then
 (D 108 [rbE (nf 0), .sc (.bool (((cel 0 (nf 0).cells).toInt) == 6))]).bind fun r6 => if hasSh .str r6 = true then
 if 1 + r6.toStr.size ≤ 9223372036854775807 then
 some (.sc (.string ((⟨#[45]⟩ : ByteArray) ++ r6.toStr)))
 else none
 else none
 else none
 else none
 else none
 else none
 else
 if (n_ == 6) = true then
 if 0 < (nn : Int) then
 if hasSh (.agg [(.int .i64), (.int .i64), (.int .i64), (.int .i64), .str, (.int .i64), (.int .i64), .bool, .bool, (.int .i64), (.int .i64), .bool, .bool, (.lst 14)]) (nf 0) = true then
 if 0 < (nn : Int) then
 if hasSh (.agg [(.int .i64), (.int .i64), (.int .i64), (.int .i64), .str, (.int .i64), (.int .i64), .bool, .bool, (.int .i64), (.int .i64), .bool, .bool, (.lst 14)]) (nf 0) = true then
 (D 109 [rbE (nf 0)]).bind fun r7 => if hasSh (.int .i64) r7 = true then
 (D 109 [.agg [.sc (.int .i64 n_), .sc (.int .i64 n__1), .sc (.int .i64 n__2), .sc (.int .i64 n__3), .sc (.string n__4), .sc (.int .i64 n__5), .sc (.int .i64 n__6), .sc (.bool n__7), .sc (.bool n__8), .sc (.int .i64 n__9), .sc (.int .i64 n__10), .sc (.bool n__11), .sc (.bool n__12), .lst 14 nn nf]]).bind fun r8 => if hasSh (.int .i64) r8 = true then
 (D 108 [rbE (nf 0), .sc (.bool (decide (r7.toInt < r8.toInt)))]).bind fun r9 => if hasSh .str r9 = true then
 if 0 ≤ IntKind.i64.wrap (n__1 - 1) then
 if IntKind.i64.wrap (n__1 - 1) < (([.sc (.string (⟨#[43]⟩ : ByteArray)), .sc (.string (⟨#[45]⟩ : ByteArray)), .sc (.string (⟨#[42]⟩ : ByteArray)), .sc (.string (⟨#[47]⟩ : ByteArray)), .sc (.string (⟨#[94]⟩ : ByteArray)), .sc (.string (⟨#[38]⟩ : ByteArray)), .sc (.string (⟨#[61]⟩ : ByteArray)), .sc (.string (⟨#[60, 62]⟩ : ByteArray)), .sc (.string (⟨#[60]⟩ : ByteArray)), .sc (.string (⟨#[60, 61]⟩ : ByteArray)), .sc (.string (⟨#[62]⟩ : ByteArray)), .sc (.string (⟨#[62, 61]⟩ : ByteArray))] : List PV).length : Int) then
 if hasSh .str (([.sc (.string (⟨#[43]⟩ : ByteArray)), .sc (.string (⟨#[45]⟩ : ByteArray)), .sc (.string (⟨#[42]⟩ : ByteArray)), .sc (.string (⟨#[47]⟩ : ByteArray)), .sc (.string (⟨#[94]⟩ : ByteArray)), .sc (.string (⟨#[38]⟩ : ByteArray)), .sc (.string (⟨#[61]⟩ : ByteArray)), .sc (.string (⟨#[60, 62]⟩ : ByteArray)), .sc (.string (⟨#[60]⟩ : ByteArray)), .sc (.string (⟨#[60, 61]⟩ : ByteArray)), .sc (.string (⟨#[62]⟩ : ByteArray)), .sc (.string (⟨#[62, 61]⟩ : ByteArray))] : List PV).getD (IntKind.i64.wrap (n__1 - 1)).toNat .top) = true then
 if r9.toStr.size + ((([.sc (.string (⟨#[43]⟩ : ByteArray)), .sc (.string (⟨#[45]⟩ : ByteArray)), .sc (.string (⟨#[42]⟩ : ByteArray)), .sc (.string (⟨#[47]⟩ : ByteArray)), .sc (.string (⟨#[94]⟩ : ByteArray)), .sc (.string (⟨#[38]⟩ : ByteArray)), .sc (.string (⟨#[61]⟩ : ByteArray)), .sc (.string (⟨#[60, 62]⟩ : ByteArray)), .sc (.string (⟨#[60]⟩ : ByteArray)), .sc (.string (⟨#[60, 61]⟩ : ByteArray)), .sc (.string (⟨#[62]⟩ : ByteArray)), .sc (.string (⟨#[62, 61]⟩ : ByteArray))] : List PV).getD (IntKind.i64.wrap (n__1 - 1)).toNat .top).toStr).size ≤ 9223372036854775807 then
 if 1 < (nn : Int) then
 if hasSh (.agg [(.int .i64), (.int .i64), (.int .i64), (.int .i64), .str, (.int .i64), (.int .i64), .bool, .bool, (.int .i64), (.int .i64), .bool, .bool, (.lst 14)]) (nf 1) = true then
 if 1 < (nn : Int) then
 if hasSh (.agg [(.int .i64), (.int .i64), (.int .i64), (.int .i64), .str, (.int .i64), (.int .i64), .bool, .bool, (.int .i64), (.int .i64), .bool, .bool, (.lst 14)]) (nf 1) = true then
 (D 109 [rbE (nf 1)]).bind fun r10 => if hasSh (.int .i64) r10 = true then
 (D 109 [.agg [.sc (.int .i64 n_), .sc (.int .i64 n__1), .sc (.int .i64 n__2), .sc (.int .i64 n__3), .sc (.string n__4), .sc (.int .i64 n__5), .sc (.int .i64 n__6), .sc (.bool n__7), .sc (.bool n__8), .sc (.int .i64 n__9), .sc (.int .i64 n__10), .sc (.bool n__11), .sc (.bool n__12), .lst 14 nn nf]]).bind fun r11 => if hasSh (.int .i64) r11 = true then
 (D 108 [rbE (nf 1), .sc (.bool (decide (r10.toInt ≤ r11.toInt)))]).bind fun r12 => if hasSh .str r12 = true then
 if (r9.toStr ++ ((([.sc (.string (⟨#[43]⟩ : ByteArray)), .sc (.string (⟨#[45]⟩ : ByteArray)), .sc (.string (⟨#[42]⟩ : ByteArray)), .sc (.string (⟨#[47]⟩ : ByteArray)), .sc (.string (⟨#[94]⟩ : ByteArray)), .sc (.string (⟨#[38]⟩ : ByteArray)), .sc (.string (⟨#[61]⟩ : ByteArray)), .sc (.string (⟨#[60, 62]⟩ : ByteArray)), .sc (.string (⟨#[60]⟩ : ByteArray)), .sc (.string (⟨#[60, 61]⟩ : ByteArray)), .sc (.string (⟨#[62]⟩ : ByteArray)), .sc (.string (⟨#[62, 61]⟩ : ByteArray))] : List PV).getD (IntKind.i64.wrap (n__1 - 1)).toNat .top).toStr)).size + r12.toStr.size ≤ 9223372036854775807 then
 some (.sc (.string ((r9.toStr ++ ((([.sc (.string (⟨#[43]⟩ : ByteArray)), .sc (.string (⟨#[45]⟩ : ByteArray)), .sc (.string (⟨#[42]⟩ : ByteArray)), .sc (.string (⟨#[47]⟩ : ByteArray)), .sc (.string (⟨#[94]⟩ : ByteArray)), .sc (.string (⟨#[38]⟩ : ByteArray)), .sc (.string (⟨#[61]⟩ : ByteArray)), .sc (.string (⟨#[60, 62]⟩ : ByteArray)), .sc (.string (⟨#[60]⟩ : ByteArray)), .sc (.string (⟨#[60, 61]⟩ : ByteArray)), .sc (.string (⟨#[62]⟩ : ByteArray)), .sc (.string (⟨#[62, 61]⟩ : ByteArray))] : List PV).getD (IntKind.i64.wrap (n__1 - 1)).toNat .top).toStr)) ++ r12.toStr)))
 else none
 else none
 else none
 else none
 else none
 else none
 else none
 else none
 else none
 else none
 else none
 else none
 else none
 else none
 else none
 else none
 else none
 else none
 else none
 else
 (D 110 [.sc (.int .i64 n__1)]).bind fun r13 => if hasSh .str r13 = true then
 if r13.toStr.size + 1 ≤ 9223372036854775807 then
 f54.l0a k (r13.toStr ++ (⟨#[40]⟩ : ByteArray)) 0 n_ n__1 n__2 n__3 n__4 n__5 n__6 n__7 n__8 n__9 n__10 n__11 n__12 nn nf
 else none
 else none :=
 (denI_eq k _ _).trans (by kernel_rfl)
theorem f54.l0a_eq (k : Nat) (s_ : ByteArray) (i n_ n__1 n__2 n__3 : Int) (n__4 : ByteArray) (n__5 n__6 : Int) (n__7 n__8 : Bool) (n__9 n__10 : Int) (n__11 n__12 : Bool) (nn : Nat) (nf : Nat → PV) : f54.l0a k s_ i n_ n__1 n__2 n__3 n__4 n__5 n__6 n__7 n__8 n__9 n__10 n__11 n__12 nn nf =
 if decide (i < (nn : Int)) = true then
 if decide (i > 0) = true then
 if s_.size + 1 ≤ 9223372036854775807 then
 f54.j1a k (s_ ++ (⟨#[44]⟩ : ByteArray)) i n_ n__1 n__2 n__3 n__4 n__5 n__6 n__7 n__8 n__9 n__10 n__11 n__12 nn nf
 else none
 else
 f54.j1a k s_ i n_ n__1 n__2 n__3 n__4 n__5 n__6 n__7 n__8 n__9 n__10 n__11 n__12 nn nf
 else
 if s_.size + 1 ≤ 9223372036854775807 then
 some (.sc (.string (s_ ++ (⟨#[41]⟩ : ByteArray))))
 else none :=
 (loopAt_eq _ _ _ _).trans (by kernel_rfl)
theorem f54.j1a_eq (k : Nat) (s_ : ByteArray) (i n_ n__1 n__2 n__3 : Int) (n__4 : ByteArray) (n__5 n__6 : Int) (n__7 n__8 : Bool) (n__9 n__10 : Int) (n__11 n__12 : Bool) (nn : Nat) (nf : Nat → PV) : f54.j1a k s_ i n_ n__1 n__2 n__3 n__4 n__5 n__6 n__7 n__8 n__9 n__10 n__11 n__12 nn nf =
 if 0 ≤ i then
 if i < (nn : Int) then
 if hasSh (.agg [(.int .i64), (.int .i64), (.int .i64), (.int .i64), .str, (.int .i64), (.int .i64), .bool, .bool, (.int .i64), (.int .i64), .bool, .bool, (.lst 14)]) (nf i.toNat) = true then
 (D 54 [rbE (nf i.toNat)]).bind fun r14 => if hasSh .str r14 = true then
 if s_.size + r14.toStr.size ≤ 9223372036854775807 then
 f54.l0a k (s_ ++ r14.toStr) (IntKind.i64.wrap (i + 1)) n_ n__1 n__2 n__3 n__4 n__5 n__6 n__7 n__8 n__9 n__10 n__11 n__12 nn nf
 else none
 else none
 else none
 else none
 else none :=
 (gateK_open _ _ _).trans (by kernel_rfl)
end ET
end Go.Den
