import Derived.Test.YtkhbkbkambflbaaGreatDoorETh
import Derived.KernelRfl
set_option maxRecDepth 100000
set_option linter.unusedVariables false
namespace Go.Den
open Go Go.Proofs
namespace ET
-- oculus/oculusref24.Ref
noncomputable def f25.j0a (k : Nat) (s_ : ByteArray) (r r_1 : Int) (r_2 r_3 : Bool) : Option PV := gateK k (placeAt Tryz.prog cf ext hint k 25 [1, 1, 1, 1]) ⟨([.top, .ptr 0 0, .top, .sc (.string s_)] ++ tops 24 ([])), [.cells 26 [.sc (.int .i64 r), .sc (.int .i64 r_1), .sc (.bool r_2), .sc (.bool r_3)]], none⟩
noncomputable def f25.j1a (k : Nat) (s_ : ByteArray) (r r_1 : Int) (r_2 r_3 : Bool) : Option PV := gateK k (placeAt Tryz.prog cf ext hint k 25 [1, 1, 1, 1, 1]) ⟨([.top, .ptr 0 0, .top, .sc (.string s_)] ++ tops 24 ([])), [.cells 26 [.sc (.int .i64 r), .sc (.int .i64 r_1), .sc (.bool r_2), .sc (.bool r_3)]], none⟩
theorem f25_eq (k : Nat) (r r_1 : Int) (r_2 r_3 : Bool) : D 25 [.agg [.sc (.int .i64 r), .sc (.int .i64 r_1), .sc (.bool r_2), .sc (.bool r_3)]] =
 (D 57 [.agg [.sc (.int .i64 r), .sc (.int .i64 r_1)]]).bind fun r1 => if hasSh .bool r1 = true then
 if (!r1.toBool) = true then
 some (.sc (.string (⟨#[]⟩ : ByteArray)))
 else
 (D 58 [.sc (.int .i64 r_1)]).bind fun r2 => if hasSh .str r2 = true then
 if r_3 = true then
 if 1 + r2.toStr.size ≤ 9223372036854775807 then
 f25.j0a k ((⟨#[36]⟩ : ByteArray) ++ r2.toStr) r r_1 r_2 r_3
 else none
 else
 f25.j0a k r2.toStr r r_1 r_2 r_3
 else none
 else none :=
 (denI_eq k _ _).trans (by kernel_rfl)
theorem f25.j0a_eq (k : Nat) (s_ : ByteArray) (r r_1 : Int) (r_2 r_3 : Bool) : f25.j0a k s_ r r_1 r_2 r_3 =
 if r_2 = true then
 if s_.size + 1 ≤ 9223372036854775807 then
 f25.j1a k (s_ ++ (⟨#[36]⟩ : ByteArray)) r r_1 r_2 r_3
 else none
 else
 f25.j1a k s_ r r_1 r_2 r_3 :=
 (gateK_open _ _ _).trans (by kernel_rfl)
theorem f25.j1a_eq (k : Nat) (s_ : ByteArray) (r r_1 : Int) (r_2 r_3 : Bool) : f25.j1a k s_ r r_1 r_2 r_3 =
 (D 59 [.sc (.int .i64 (IntKind.i64.wrap (r + 1)))]).bind fun r3 => if hasSh .str r3 = true then
 if s_.size + r3.toStr.size ≤ 9223372036854775807 then
 some (.sc (.string (s_ ++ r3.toStr)))
 else none
 else none :=
 (gateK_open _ _ _).trans (by kernel_rfl)
-- oculus/oculusref03.Letters
theorem f58_eq (k : Nat) (col : Int) : D 58 [.sc (.int .i64 col)] =
 Option.bind (α := PV) (
 if decide (col < 0) = true then
 some (.sc (.bool true))
 else
 some (.sc (.bool (decide (col > 701))))) fun r1 =>
 if r1.toBool = true then
 some (.sc (.string (⟨#[]⟩ : ByteArray)))
 else
 if decide (col < 26) = true then
 if ([.sc (.int .u8 (IntKind.u8.wrap (IntKind.i64.wrap ((65 : Int) + col))))] : List PV).all (hasSh (.int .u8)) = true then
 some (.sc (.string (bytesOf ([.sc (.int .u8 (IntKind.u8.wrap (IntKind.i64.wrap ((65 : Int) + col))))] : List PV))))
 else none
 else
 if ([.sc (.int .u8 (IntKind.u8.wrap (IntKind.i64.wrap ((64 : Int) + (IntKind.i64.wrap (col.tdiv 26)))))), .sc (.int .u8 (IntKind.u8.wrap (IntKind.i64.wrap ((65 : Int) + (col.tmod 26)))))] : List PV).all (hasSh (.int .u8)) = true then
 some (.sc (.string (bytesOf ([.sc (.int .u8 (IntKind.u8.wrap (IntKind.i64.wrap ((64 : Int) + (IntKind.i64.wrap (col.tdiv 26)))))), .sc (.int .u8 (IntKind.u8.wrap (IntKind.i64.wrap ((65 : Int) + (col.tmod 26)))))] : List PV))))
 else none :=
 (denI_eq k _ _).trans (by kernel_rfl)
-- oculus/oculusref11.Text
noncomputable def f106.j0a (k : Nat) (n_ : Int) (s_ : ByteArray) : Option PV := gateK k (placeAt Tryz.prog cf ext hint k 106 [1, 1, 1, 1, 1]) ⟨([.top, .top, .top, .sc (.int .u64 n_), .sc (.string s_)] ++ tops 30 ([])), [], none⟩
noncomputable def f106.j1a (k : Nat) (s_ : ByteArray) (rest : Int) : Option PV := gateK k (placeAt Tryz.prog cf ext hint k 106 [1, 1, 1, 1, 1, 1, 1]) ⟨(tops 4 ([.sc (.string s_), .sc (.int .u64 rest)] ++ tops 29 ([]))), [], none⟩
noncomputable def f106.l2a (k : Nat) (s_ : ByteArray) (rest : Int) : Option PV := loopAt Tryz.prog cf ext hint k 106 [1, 1, 1, 1, 1, 1, 1, 0, 0] ⟨(tops 4 ([.sc (.string s_), .sc (.int .u64 rest)] ++ tops 29 ([]))), [], none⟩
theorem f106_eq (k : Nat) (x_ : Int) : D 106 [.sc (.int .i64 x_)] =
 (D 156 [.sc (.int .i64 x_)]).bind fun r1 => if hasSh .bool r1 = true then
 if (!r1.toBool) = true then
 some (.sc (.string (⟨#[]⟩ : ByteArray)))
 else
 (D 157 [.sc (.int .i64 x_)]).bind fun r2 => if hasSh (.int .u64) r2 = true then
 (D 158 [.sc (.int .u64 (IntKind.u64.wrap (r2.toInt.tdiv 10000)))]).bind fun r3 => if hasSh .str r3 = true then
 if decide (x_ < 0) = true then
 if 1 + r3.toStr.size ≤ 9223372036854775807 then
 f106.j0a k r2.toInt ((⟨#[45]⟩ : ByteArray) ++ r3.toStr)
 else none
 else
 f106.j0a k r2.toInt r3.toStr
 else none
 else none
 else none :=
 (denI_eq k _ _).trans (by kernel_rfl)
theorem f106.j0a_eq (k : Nat) (n_ : Int) (s_ : ByteArray) : f106.j0a k n_ s_ =
 if decide ((n_.tmod 10000) > 0) = true then
 if s_.size + 1 ≤ 9223372036854775807 then
 f106.j1a k (s_ ++ (⟨#[46]⟩ : ByteArray)) (n_.tmod 10000)
 else none
 else
 f106.j1a k s_ (n_.tmod 10000) :=
 (gateK_open _ _ _).trans (by kernel_rfl)
theorem f106.j1a_eq (k : Nat) (s_ : ByteArray) (rest : Int) : f106.j1a k s_ rest =
 f106.l2a k s_ rest :=
 (gateK_open _ _ _).trans (by kernel_rfl)
theorem f106.l2a_eq (k : Nat) (s_ : ByteArray) (rest : Int) : f106.l2a k s_ rest =
 if decide (rest > 0) = true then
 (D 158 [.sc (.int .u64 (IntKind.u64.wrap (rest.tdiv 1000)))]).bind fun r4 => if hasSh .str r4 = true then
 if s_.size + r4.toStr.size ≤ 9223372036854775807 then
 f106.l2a k (s_ ++ r4.toStr) (IntKind.u64.wrap ((rest.tmod 1000) * 10))
 else none
 else none
 else
 some (.sc (.string s_)) :=
 (loopAt_eq _ _ _ _).trans (by kernel_rfl)
-- oculus/oculusref08.Abs
theorem f157_eq (k : Nat) (x_ : Int) : D 157 [.sc (.int .i64 x_)] =
 if decide (x_ < 0) = true then
 some (.sc (.int .u64 (IntKind.u64.wrap (IntKind.i64.wrap ((0 : Int) - x_)))))
 else
 some (.sc (.int .u64 (IntKind.u64.wrap (x_)))) :=
 (denI_eq k _ _).trans (by kernel_rfl)
-- oculus/oculusref11.whole
noncomputable def f158.l0a (k : Nat) (n_ : Int) (s_ : ByteArray) : Option PV := loopAt Tryz.prog cf ext hint k 158 [1, 1, 0, 1, 0] ⟨([.sc (.int .u64 n_), .top, .top, .sc (.string s_)] ++ tops 21 ([])), [], none⟩
theorem f158_eq (k : Nat) (n_ : Int) : D 158 [.sc (.int .u64 n_)] =
 if ([.sc (.int .u8 (IntKind.u8.wrap (IntKind.u64.wrap ((48 : Int) + (n_.tmod 10)))))] : List PV).all (hasSh (.int .u8)) = true then
 f158.l0a k (IntKind.u64.wrap (n_.tdiv 10)) (bytesOf ([.sc (.int .u8 (IntKind.u8.wrap (IntKind.u64.wrap ((48 : Int) + (n_.tmod 10)))))] : List PV))
 else none :=
 (denI_eq k _ _).trans (by kernel_rfl)
theorem f158.l0a_eq (k : Nat) (n_ : Int) (s_ : ByteArray) : f158.l0a k n_ s_ =
 if decide (n_ > 0) = true then
 if ([.sc (.int .u8 (IntKind.u8.wrap (IntKind.u64.wrap ((48 : Int) + (n_.tmod 10)))))] : List PV).all (hasSh (.int .u8)) = true then
 if (bytesOf ([.sc (.int .u8 (IntKind.u8.wrap (IntKind.u64.wrap ((48 : Int) + (n_.tmod 10)))))] : List PV)).size + s_.size ≤ 9223372036854775807 then
 f158.l0a k (IntKind.u64.wrap (n_.tdiv 10)) ((bytesOf ([.sc (.int .u8 (IntKind.u8.wrap (IntKind.u64.wrap ((48 : Int) + (n_.tmod 10)))))] : List PV)) ++ s_)
 else none
 else none
 else
 some (.sc (.string s_)) :=
 (loopAt_eq _ _ _ _).trans (by kernel_rfl)
-- oculus/oculusref12.Show
theorem f107_eq (k : Nat) (v_ v__1 : Int) (v__2 : ByteArray) : D 107 [.agg [.sc (.int .i64 v_), .sc (.int .i64 v__1), .sc (.string v__2)]] =
 if (v_ == 2) = true then
 (D 159 [.sc (.string v__2)]).bind fun r1 => if hasSh .str r1 = true then
 some (.sc (.string r1.toStr))
 else none
 else
 if (v_ == 4) = true then
 (D 160 [.sc (.int .i64 v__1)]).bind fun r2 => if hasSh .str r2 = true then
 some (.sc (.string r2.toStr))
 else none
 else
 (D 161 [.agg [.sc (.int .i64 v_), .sc (.int .i64 v__1), .sc (.string v__2)]]).bind fun r3 => if hasSh .str r3 = true then
 some (.sc (.string r3.toStr))
 else none :=
 (denI_eq k _ _).trans (by kernel_rfl)
-- oculus/oculusref12.Quote
noncomputable def f159.l0a (k : Nat) (t : ByteArray) (i : Int) (out : List PV) : Option PV := loopAt Tryz.prog cf ext hint k 159 [1, 1, 0, 1, 0] ⟨([.sc (.string t), .top, .top, .buf 0 0, .sc (.int .i64 i)] ++ tops 25 ([])), [.buf 5 0 out], none⟩
theorem f159_eq (k : Nat) (t : ByteArray) : D 159 [.sc (.string t)] =
 f159.l0a k t 0 ([.sc (.int .u8 34)] : List PV) :=
 (denI_eq k _ _).trans (by kernel_rfl)
theorem f159.l0a_eq (k : Nat) (t : ByteArray) (i : Int) (out : List PV) : f159.l0a k t i out =
 if decide (i < (t.size : Int)) = true then
 if 0 ≤ i then
 if i < (t.size : Int) then
 if ((bt t i) == 34) = true then
 if (out.length + ([.sc (.int .u8 34)] : List PV).length) * 1 ≤ 140737488355328 ∧ out.length + ([.sc (.int .u8 34)] : List PV).length ≤ 140737488355328 then
 if 0 ≤ i then
 if i < (t.size : Int) then
 if ((out ++ ([.sc (.int .u8 34)] : List PV)).length + ([.sc (.int .u8 (bt t i))] : List PV).length) * 1 ≤ 140737488355328 ∧ (out ++ ([.sc (.int .u8 34)] : List PV)).length + ([.sc (.int .u8 (bt t i))] : List PV).length ≤ 140737488355328 then
 f159.l0a k t (IntKind.i64.wrap (i + 1)) ((out ++ ([.sc (.int .u8 34)] : List PV)) ++ ([.sc (.int .u8 (bt t i))] : List PV))
 else none
 else none
 else none
 else none
 else
 if 0 ≤ i then
 if i < (t.size : Int) then
 if (out.length + ([.sc (.int .u8 (bt t i))] : List PV).length) * 1 ≤ 140737488355328 ∧ out.length + ([.sc (.int .u8 (bt t i))] : List PV).length ≤ 140737488355328 then
 f159.l0a k t (IntKind.i64.wrap (i + 1)) (out ++ ([.sc (.int .u8 (bt t i))] : List PV))
 else none
 else none
 else none
 else none
 else none
 else
 if (out.length + ([.sc (.int .u8 34)] : List PV).length) * 1 ≤ 140737488355328 ∧ out.length + ([.sc (.int .u8 34)] : List PV).length ≤ 140737488355328 then
 if (out ++ ([.sc (.int .u8 34)] : List PV)).all (hasSh (.int .u8)) = true then
 some (.sc (.string (bytesOf (out ++ ([.sc (.int .u8 34)] : List PV)))))
 else none
 else none :=
 (loopAt_eq _ _ _ _).trans (by kernel_rfl)
-- oculus/oculusref12.FaultText
theorem f160_eq (k : Nat) (code : Int) : D 160 [.sc (.int .i64 code)] =
 Option.bind (α := PV) (
 if decide (code < 1) = true then
 some (.sc (.bool true))
 else
 some (.sc (.bool (decide (code > 7))))) fun r1 =>
 if r1.toBool = true then
 some (.sc (.string (⟨#[]⟩ : ByteArray)))
 else
 if 0 ≤ IntKind.i64.wrap (code - 1) then
 if IntKind.i64.wrap (code - 1) < (([.sc (.string (⟨#[35, 68, 73, 86]⟩ : ByteArray)), .sc (.string (⟨#[35, 86, 65, 76, 85, 69]⟩ : ByteArray)), .sc (.string (⟨#[35, 82, 69, 70]⟩ : ByteArray)), .sc (.string (⟨#[35, 78, 85, 77]⟩ : ByteArray)), .sc (.string (⟨#[35, 78, 65]⟩ : ByteArray)), .sc (.string (⟨#[35, 65, 85, 84, 72]⟩ : ByteArray)), .sc (.string (⟨#[35, 67, 89, 67, 76, 69]⟩ : ByteArray))] : List PV).length : Int) then
 if hasSh .str (([.sc (.string (⟨#[35, 68, 73, 86]⟩ : ByteArray)), .sc (.string (⟨#[35, 86, 65, 76, 85, 69]⟩ : ByteArray)), .sc (.string (⟨#[35, 82, 69, 70]⟩ : ByteArray)), .sc (.string (⟨#[35, 78, 85, 77]⟩ : ByteArray)), .sc (.string (⟨#[35, 78, 65]⟩ : ByteArray)), .sc (.string (⟨#[35, 65, 85, 84, 72]⟩ : ByteArray)), .sc (.string (⟨#[35, 67, 89, 67, 76, 69]⟩ : ByteArray))] : List PV).getD (IntKind.i64.wrap (code - 1)).toNat .top) = true then
 some (.sc (.string ((([.sc (.string (⟨#[35, 68, 73, 86]⟩ : ByteArray)), .sc (.string (⟨#[35, 86, 65, 76, 85, 69]⟩ : ByteArray)), .sc (.string (⟨#[35, 82, 69, 70]⟩ : ByteArray)), .sc (.string (⟨#[35, 78, 85, 77]⟩ : ByteArray)), .sc (.string (⟨#[35, 78, 65]⟩ : ByteArray)), .sc (.string (⟨#[35, 65, 85, 84, 72]⟩ : ByteArray)), .sc (.string (⟨#[35, 67, 89, 67, 76, 69]⟩ : ByteArray))] : List PV).getD (IntKind.i64.wrap (code - 1)).toNat .top).toStr)))
 else none
 else none
 else none :=
 (denI_eq k _ _).trans (by kernel_rfl)
-- oculus/oculusref12.Words
theorem f161_eq (k : Nat) (v_ v__1 : Int) (v__2 : ByteArray) : D 161 [.agg [.sc (.int .i64 v_), .sc (.int .i64 v__1), .sc (.string v__2)]] =
 if (v_ == 1) = true then
 (D 106 [.sc (.int .i64 v__1)]).bind fun r1 => if hasSh .str r1 = true then
 some (.sc (.string r1.toStr))
 else none
 else
 Option.bind (α := PV) (
 if (v_ == 3) = true then
 some (.sc (.bool (v__1 == 1)))
 else
 some (.sc (.bool false))) fun r2 =>
 if r2.toBool = true then
 some (.sc (.string (⟨#[84, 82, 85, 69]⟩ : ByteArray)))
 else
 if (v_ == 3) = true then
 some (.sc (.string (⟨#[70, 65, 76, 83, 69]⟩ : ByteArray)))
 else
 some (.sc (.string v__2)) :=
 (denI_eq k _ _).trans (by kernel_rfl)
-- oculus/oculusref24.bracket
theorem f108_eq (k : Nat) (n_ n__1 n__2 n__3 : Int) (n__4 : ByteArray) (n__5 n__6 : Int) (n__7 n__8 : Bool) (n__9 n__10 : Int) (n__11 n__12 : Bool) (nn : Nat) (nf : Nat → PV) (is : Bool) : D 108 [.agg [.sc (.int .i64 n_), .sc (.int .i64 n__1), .sc (.int .i64 n__2), .sc (.int .i64 n__3), .sc (.string n__4), .sc (.int .i64 n__5), .sc (.int .i64 n__6), .sc (.bool n__7), .sc (.bool n__8), .sc (.int .i64 n__9), .sc (.int .i64 n__10), .sc (.bool n__11), .sc (.bool n__12), .lst 14 nn nf], .sc (.bool is)] =
 if is = true then
 (D 54 [.agg [.sc (.int .i64 n_), .sc (.int .i64 n__1), .sc (.int .i64 n__2), .sc (.int .i64 n__3), .sc (.string n__4), .sc (.int .i64 n__5), .sc (.int .i64 n__6), .sc (.bool n__7), .sc (.bool n__8), .sc (.int .i64 n__9), .sc (.int .i64 n__10), .sc (.bool n__11), .sc (.bool n__12), .lst 14 nn nf]]).bind fun r1 => if hasSh .str r1 = true then
 if 1 + r1.toStr.size ≤ 9223372036854775807 then
 if ((⟨#[40]⟩ : ByteArray) ++ r1.toStr).size + 1 ≤ 9223372036854775807 then
 some (.sc (.string (((⟨#[40]⟩ : ByteArray) ++ r1.toStr) ++ (⟨#[41]⟩ : ByteArray))))
 else none
 else none
 else none
 else
 (D 54 [.agg [.sc (.int .i64 n_), .sc (.int .i64 n__1), .sc (.int .i64 n__2), .sc (.int .i64 n__3), .sc (.string n__4), .sc (.int .i64 n__5), .sc (.int .i64 n__6), .sc (.bool n__7), .sc (.bool n__8), .sc (.int .i64 n__9), .sc (.int .i64 n__10), .sc (.bool n__11), .sc (.bool n__12), .lst 14 nn nf]]).bind fun r2 => if hasSh .str r2 = true then
 some (.sc (.string r2.toStr))
 else none :=
 (denI_eq k _ _).trans (by kernel_rfl)
-- oculus/oculusref24.binds
theorem f109_eq (k : Nat) (n_ n__1 n__2 n__3 : Int) (n__4 : ByteArray) (n__5 n__6 : Int) (n__7 n__8 : Bool) (n__9 n__10 : Int) (n__11 n__12 : Bool) (nn : Nat) (nf : Nat → PV) : D 109 [.agg [.sc (.int .i64 n_), .sc (.int .i64 n__1), .sc (.int .i64 n__2), .sc (.int .i64 n__3), .sc (.string n__4), .sc (.int .i64 n__5), .sc (.int .i64 n__6), .sc (.bool n__7), .sc (.bool n__8), .sc (.int .i64 n__9), .sc (.int .i64 n__10), .sc (.bool n__11), .sc (.bool n__12), .lst 14 nn nf]] =
 if (n_ != 6) = true then
 some (.sc (.int .i64 6))
 else
 if 0 ≤ IntKind.i64.wrap (n__1 - 1) then
 if IntKind.i64.wrap (n__1 - 1) < (([.sc (.int .i64 3), .sc (.int .i64 3), .sc (.int .i64 4), .sc (.int .i64 4), .sc (.int .i64 5), .sc (.int .i64 2), .sc (.int .i64 1), .sc (.int .i64 1), .sc (.int .i64 1), .sc (.int .i64 1), .sc (.int .i64 1), .sc (.int .i64 1)] : List PV).length : Int) then
 if hasSh (.int .i64) (([.sc (.int .i64 3), .sc (.int .i64 3), .sc (.int .i64 4), .sc (.int .i64 4), .sc (.int .i64 5), .sc (.int .i64 2), .sc (.int .i64 1), .sc (.int .i64 1), .sc (.int .i64 1), .sc (.int .i64 1), .sc (.int .i64 1), .sc (.int .i64 1)] : List PV).getD (IntKind.i64.wrap (n__1 - 1)).toNat .top) = true then
 some (.sc (.int .i64 ((([.sc (.int .i64 3), .sc (.int .i64 3), .sc (.int .i64 4), .sc (.int .i64 4), .sc (.int .i64 5), .sc (.int .i64 2), .sc (.int .i64 1), .sc (.int .i64 1), .sc (.int .i64 1), .sc (.int .i64 1), .sc (.int .i64 1), .sc (.int .i64 1)] : List PV).getD (IntKind.i64.wrap (n__1 - 1)).toNat .top).toInt)))
 else none
 else none
 else none :=
 (denI_eq k _ _).trans (by kernel_rfl)
-- oculus/oculusref19.Name
theorem f110_eq (k : Nat) (fn : Int) : D 110 [.sc (.int .i64 fn)] =
 Option.bind (α := PV) (
 if decide (fn < 1) = true then
 some (.sc (.bool true))
 else
 some (.sc (.bool (decide (fn > 78))))) fun r1 =>
 if r1.toBool = true then
 some (.sc (.string (⟨#[]⟩ : ByteArray)))
 else
 (D 162 []).bind fun r2 => if hasSh (.lst 1) r2 = true then
 if 0 ≤ IntKind.i64.wrap (fn - 1) then
 if IntKind.i64.wrap (fn - 1) < (r2.len : Int) then
 if hasSh .str (r2.at (IntKind.i64.wrap (fn - 1)).toNat) = true then
 some (.sc (.string ((r2.at (IntKind.i64.wrap (fn - 1)).toNat).toStr)))
 else none
 else none
 else none
 else none :=
 (denI_eq k _ _).trans (by kernel_rfl)
-- oculus/oculusref19.Names
theorem f162_eq (k : Nat)  : D 162 [] =
 some (frozen 1 ([.sc (.string (⟨#[65, 66, 83]⟩ : ByteArray)), .sc (.string (⟨#[65, 78, 68]⟩ : ByteArray)), .sc (.string (⟨#[65, 86, 69, 82, 65, 71, 69]⟩ : ByteArray)), .sc (.string (⟨#[65, 86, 69, 82, 65, 71, 69, 73, 70]⟩ : ByteArray)), .sc (.string (⟨#[67, 69, 73, 76, 73, 78, 71]⟩ : ByteArray)), .sc (.string (⟨#[67, 72, 65, 82]⟩ : ByteArray)), .sc (.string (⟨#[67, 72, 79, 79, 83, 69]⟩ : ByteArray)), .sc (.string (⟨#[67, 79, 68, 69]⟩ : ByteArray)), .sc (.string (⟨#[67, 79, 76, 85, 77, 78]⟩ : ByteArray)), .sc (.string (⟨#[67, 79, 76, 85, 77, 78, 83]⟩ : ByteArray)), .sc (.string (⟨#[67, 79, 77, 66, 73, 78]⟩ : ByteArray)), .sc (.string (⟨#[67, 79, 78, 67, 65, 84]⟩ : ByteArray)), .sc (.string (⟨#[67, 79, 85, 78, 84]⟩ : ByteArray)), .sc (.string (⟨#[67, 79, 85, 78, 84, 65]⟩ : ByteArray)), .sc (.string (⟨#[67, 79, 85, 78, 84, 66, 76, 65, 78, 75]⟩ : ByteArray)), .sc (.string (⟨#[67, 79, 85, 78, 84, 73, 70]⟩ : ByteArray)), .sc (.string (⟨#[68, 69, 67, 76, 65, 83, 83]⟩ : ByteArray)), .sc (.string (⟨#[69, 86, 69, 78]⟩ : ByteArray)), .sc (.string (⟨#[69, 88, 65, 67, 84]⟩ : ByteArray)), .sc (.string (⟨#[70, 65, 67, 84]⟩ : ByteArray)), .sc (.string (⟨#[70, 73, 78, 68]⟩ : ByteArray)), .sc (.string (⟨#[70, 76, 79, 79, 82]⟩ : ByteArray)), .sc (.string (⟨#[71, 67, 68]⟩ : ByteArray)), .sc (.string (⟨#[72, 76, 79, 79, 75, 85, 80]⟩ : ByteArray)), .sc (.string (⟨#[73, 70]⟩ : ByteArray)), .sc (.string (⟨#[73, 70, 69, 82, 82, 79, 82]⟩ : ByteArray)), .sc (.string (⟨#[73, 78, 68, 69, 88]⟩ : ByteArray)), .sc (.string (⟨#[73, 78, 84]⟩ : ByteArray)), .sc (.string (⟨#[73, 83, 66, 76, 65, 78, 75]⟩ : ByteArray)), .sc (.string (⟨#[73, 83, 69, 82, 82, 79, 82]⟩ : ByteArray)), .sc (.string (⟨#[73, 83, 76, 79, 71, 73, 67, 65, 76]⟩ : ByteArray)), .sc (.string (⟨#[73, 83, 78, 85, 77, 66, 69, 82]⟩ : ByteArray)), .sc (.string (⟨#[73, 83, 84, 69, 88, 84]⟩ : ByteArray)), .sc (.string (⟨#[76, 65, 82, 71, 69]⟩ : ByteArray)), .sc (.string (⟨#[76, 67, 77]⟩ : ByteArray)), .sc (.string (⟨#[76, 69, 70, 84]⟩ : ByteArray)), .sc (.string (⟨#[76, 69, 78]⟩ : ByteArray)), .sc (.string (⟨#[76, 79, 87, 69, 82]⟩ : ByteArray)), .sc (.string (⟨#[77, 65, 84, 67, 72]⟩ : ByteArray)), .sc (.string (⟨#[77, 65, 88]⟩ : ByteArray)), .sc (.string (⟨#[77, 69, 68, 73, 65, 78]⟩ : ByteArray)), .sc (.string (⟨#[77, 73, 68]⟩ : ByteArray)), .sc (.string (⟨#[77, 73, 78]⟩ : ByteArray)), .sc (.string (⟨#[77, 79, 68]⟩ : ByteArray)), .sc (.string (⟨#[77, 79, 68, 69]⟩ : ByteArray)), .sc (.string (⟨#[78, 65]⟩ : ByteArray)), .sc (.string (⟨#[78, 79, 84]⟩ : ByteArray)), .sc (.string (⟨#[79, 68, 68]⟩ : ByteArray)), .sc (.string (⟨#[79, 82]⟩ : ByteArray)), .sc (.string (⟨#[80, 79, 87, 69, 82]⟩ : ByteArray)), .sc (.string (⟨#[80, 82, 79, 68, 85, 67, 84]⟩ : ByteArray)), .sc (.string (⟨#[80, 82, 79, 80, 69, 82]⟩ : ByteArray)), .sc (.string (⟨#[81, 85, 79, 84, 73, 69, 78, 84]⟩ : ByteArray)), .sc (.string (⟨#[82, 65, 78, 75]⟩ : ByteArray)), .sc (.string (⟨#[82, 69, 80, 84]⟩ : ByteArray)), .sc (.string (⟨#[82, 69, 86, 69, 82, 83, 69]⟩ : ByteArray)), .sc (.string (⟨#[82, 73, 71, 72, 84]⟩ : ByteArray)), .sc (.string (⟨#[82, 79, 85, 78, 68]⟩ : ByteArray)), .sc (.string (⟨#[82, 79, 85, 78, 68, 68, 79, 87, 78]⟩ : ByteArray)), .sc (.string (⟨#[82, 79, 85, 78, 68, 85, 80]⟩ : ByteArray)), .sc (.string (⟨#[82, 79, 87]⟩ : ByteArray)), .sc (.string (⟨#[82, 79, 87, 83]⟩ : ByteArray)), .sc (.string (⟨#[83, 73, 71, 78]⟩ : ByteArray)), .sc (.string (⟨#[83, 77, 65, 76, 76]⟩ : ByteArray)), .sc (.string (⟨#[83, 81, 82, 84]⟩ : ByteArray)), .sc (.string (⟨#[83, 85, 66, 83, 84, 73, 84, 85, 84, 69]⟩ : ByteArray)), .sc (.string (⟨#[83, 85, 77]⟩ : ByteArray)), .sc (.string (⟨#[83, 85, 77, 73, 70]⟩ : ByteArray)), .sc (.string (⟨#[83, 85, 77, 80, 82, 79, 68, 85, 67, 84]⟩ : ByteArray)), .sc (.string (⟨#[83, 85, 77, 83, 81]⟩ : ByteArray)), .sc (.string (⟨#[83, 87, 73, 84, 67, 72]⟩ : ByteArray)), .sc (.string (⟨#[84, 69, 88, 84]⟩ : ByteArray)), .sc (.string (⟨#[84, 82, 73, 77]⟩ : ByteArray)), .sc (.string (⟨#[84, 82, 85, 78, 67]⟩ : ByteArray)), .sc (.string (⟨#[85, 80, 80, 69, 82]⟩ : ByteArray)), .sc (.string (⟨#[86, 65, 76, 85, 69]⟩ : ByteArray)), .sc (.string (⟨#[86, 76, 79, 79, 75, 85, 80]⟩ : ByteArray)), .sc (.string (⟨#[88, 79, 82]⟩ : ByteArray))] : List PV)) :=
 (denI_eq k _ _).trans (by kernel_rfl)
end ET
end Go.Den
