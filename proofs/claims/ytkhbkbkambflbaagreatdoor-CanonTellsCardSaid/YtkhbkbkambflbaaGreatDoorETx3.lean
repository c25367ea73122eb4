import Derived.Test.YtkhbkbkambflbaaGreatDoorETh
import Derived.KernelRfl
set_option maxRecDepth 100000
set_option linter.unusedVariables false
namespace Go.Den
open Go Go.Proofs
namespace ET
-- oculus/addr.Column
noncomputable def f48.l0a (k : Nat) (t : ByteArray) (n_ t15 t16 : Int) : Option PV := loopAt Tryz.prog cf ext hint k 48 [1, 1, 1, 0, 1, 0] ⟨([.sc (.string t), .top, .top, .top, .sc (.int .i64 n_)] ++ tops 10 ([.sc (.int .i64 t15), .sc (.int .i64 t16)] ++ tops 24 ([]))), [], none⟩
theorem f48_eq (k : Nat) (t : ByteArray) : D 48 [.sc (.string t)] =
 Option.bind (α := PV) (
 if decide ((t.size : Int) < 1) = true then
 some (.sc (.bool true))
 else
 some (.sc (.bool (decide ((t.size : Int) > 2))))) fun r1 =>
 if r1.toBool = true then
 some (.tup [.sc (.int .i64 0), .sc (.bool false)])
 else
 f48.l0a k t 0 (t.size : Int) 0 :=
 (denI_eq k _ _).trans (by kernel_rfl)
theorem f48.l0a_eq (k : Nat) (t : ByteArray) (n_ t15 t16 : Int) : f48.l0a k t n_ t15 t16 =
 if decide (t16 < t15) = true then
 if 0 ≤ t16 then
 if t16 < (t.size : Int) then
 Option.bind (α := PV) (
 if decide ((bt t t16) < 65) = true then
 some (.sc (.bool true))
 else
 Option.bind (α := PV) (
 Option.bind (α := PV) (
 if 0 ≤ t16 then
 if t16 < (t.size : Int) then
 some (.sc (.bool (decide ((bt t t16) > 90))))
 else none
 else none) fun r2 =>
 some (.sc (.bool r2.toBool))) fun r3 =>
 some (.sc (.bool r3.toBool))) fun r4 =>
 if r4.toBool = true then
 some (.tup [.sc (.int .i64 0), .sc (.bool false)])
 else
 if 0 ≤ t16 then
 if t16 < (t.size : Int) then
 f48.l0a k t (IntKind.i64.wrap ((IntKind.i64.wrap ((IntKind.i64.wrap (n_ * 26)) + (IntKind.i64.wrap (IntKind.u8.wrap ((bt t t16) - 65))))) + 1)) t15 (IntKind.i64.wrap (t16 + 1))
 else none
 else none
 else none
 else none
 else
 some (.tup [.sc (.int .i64 (IntKind.i64.wrap (n_ - 1))), .sc (.bool true)]) :=
 (loopAt_eq _ _ _ _).trans (by kernel_rfl)
-- oculus/addr.Number
noncomputable def f49.l0a (k : Nat) (t : ByteArray) (n_ t20 t21 : Int) : Option PV := loopAt Tryz.prog cf ext hint k 49 [1, 1, 1, 0, 1, 0] ⟨([.sc (.string t), .top, .top, .top, .sc (.int .i64 n_)] ++ tops 15 ([.sc (.int .i64 t20), .sc (.int .i64 t21)] ++ tops 23 ([]))), [], none⟩
theorem f49_eq (k : Nat) (t : ByteArray) : D 49 [.sc (.string t)] =
 Option.bind (α := PV) (
 if decide ((t.size : Int) < 1) = true then
 some (.sc (.bool true))
 else
 some (.sc (.bool (decide ((t.size : Int) > 3))))) fun r1 =>
 Option.bind (α := PV) (
 if r1.toBool = true then
 some (.sc (.bool true))
 else
 Option.bind (α := PV) (
 if 0 < (t.size : Int) then
 some (.sc (.bool ((bt t 0) == 48)))
 else none) fun r2 =>
 some (.sc (.bool r2.toBool))) fun r3 =>
 if r3.toBool = true then
 some (.tup [.sc (.int .i64 0), .sc (.bool false)])
 else
 f49.l0a k t 0 (t.size : Int) 0 :=
 (denI_eq k _ _).trans (by kernel_rfl)
theorem f49.l0a_eq (k : Nat) (t : ByteArray) (n_ t20 t21 : Int) : f49.l0a k t n_ t20 t21 =
 if decide (t21 < t20) = true then
 if 0 ≤ t21 then
 if t21 < (t.size : Int) then
 Option.bind (α := PV) (
 if decide ((bt t t21) < 48) = true then
 some (.sc (.bool true))
 else
 Option.bind (α := PV) (
 Option.bind (α := PV) (
 if 0 ≤ t21 then
 if t21 < (t.size : Int) then
 some (.sc (.bool (decide ((bt t t21) > 57))))
 else none
 else none) fun r4 =>
 some (.sc (.bool r4.toBool))) fun r5 =>
 some (.sc (.bool r5.toBool))) fun r6 =>
 if r6.toBool = true then
 some (.tup [.sc (.int .i64 0), .sc (.bool false)])
 else
 if 0 ≤ t21 then
 if t21 < (t.size : Int) then
 f49.l0a k t (IntKind.i64.wrap ((IntKind.i64.wrap (n_ * 10)) + (IntKind.i64.wrap (IntKind.u8.wrap ((bt t t21) - 48))))) t20 (IntKind.i64.wrap (t21 + 1))
 else none
 else none
 else none
 else none
 else
 some (.tup [.sc (.int .i64 (IntKind.i64.wrap (n_ - 1))), .sc (.bool true)]) :=
 (loopAt_eq _ _ _ _).trans (by kernel_rfl)
-- (*oculus/parse.parser).fail
theorem f182h_eq (k : Nat) (ln : Nat) (lf : Nat → PV) (at_ : Int) (wrong : Bool) : D 182 [.hp [.iptr (.ptr 67 0 :: [.lst 4 ln lf, .sc (.int .i64 at_), .sc (.bool wrong)])], .ptr 0 0] =
 some (.tup [.hp [.iptr (.ptr 67 0 :: [.lst 4 ln lf, .sc (.int .i64 at_), .sc (.bool true)])], .agg [.sc (.int .i64 0), .sc (.int .i64 0), .sc (.int .i64 0), .sc (.int .i64 0), .sc (.string (⟨#[]⟩ : ByteArray)), .sc (.int .i64 0), .sc (.int .i64 0), .sc (.bool false), .sc (.bool false), .sc (.int .i64 0), .sc (.int .i64 0), .sc (.bool false), .sc (.bool false), .nils]]) :=
 (denI_eq k _ _).trans (by kernel_rfl)
-- (*oculus/parse.parser).call
noncomputable def f207h.l0a (k : Nat) (pn : Nat) (pf : Nat → PV) (p : Int) (p_1 : Bool) (c1 c1_1 c1_2 c1_3 : Int) (c1_4 : ByteArray) (c1_5 c1_6 : Int) (c1_7 c1_8 : Bool) (c1_9 c1_10 : Int) (c1_11 c1_12 : Bool) (out out_1 out_2 out_3 : Int) (out_4 : ByteArray) (out_5 out_6 : Int) (out_7 out_8 : Bool) (out_9 out_10 : Int) (out_11 out_12 : Bool) : Option PV := loopAt Tryz.prog cf ext hint k 207 [1, 1, 1, 0] ⟨([.ptr 0 0, .top, .top, .top, .ptr 1 0, .ptr 2 0] ++ tops 29 ([])), [.cells 67 [.lst 4 pn pf, .sc (.int .i64 p), .sc (.bool p_1)], .cells 29 [.sc (.int .i64 c1), .sc (.int .i64 c1_1), .sc (.int .i64 c1_2), .sc (.int .i64 c1_3), .sc (.string c1_4), .sc (.int .i64 c1_5), .sc (.int .i64 c1_6), .sc (.bool c1_7), .sc (.bool c1_8), .sc (.int .i64 c1_9), .sc (.int .i64 c1_10), .sc (.bool c1_11), .sc (.bool c1_12), .nils], .cells 29 [.sc (.int .i64 out), .sc (.int .i64 out_1), .sc (.int .i64 out_2), .sc (.int .i64 out_3), .sc (.string out_4), .sc (.int .i64 out_5), .sc (.int .i64 out_6), .sc (.bool out_7), .sc (.bool out_8), .sc (.int .i64 out_9), .sc (.int .i64 out_10), .sc (.bool out_11), .sc (.bool out_12), .nils]], (some 1)⟩
noncomputable def f207h.l0b (k : Nat) (pn : Nat) (pf : Nat → PV) (p : Int) (p_1 : Bool) (c1 c1_1 c1_2 c1_3 : Int) (c1_4 : ByteArray) (c1_5 c1_6 : Int) (c1_7 c1_8 : Bool) (c1_9 c1_10 : Int) (c1_11 c1_12 : Bool) (out out_1 out_2 out_3 : Int) (out_4 : ByteArray) (out_5 out_6 : Int) (out_7 out_8 : Bool) (out_9 out_10 : Int) (out_11 out_12 : Bool) (xs3 : List PV) : Option PV := loopAt Tryz.prog cf ext hint k 207 [1, 1, 1, 0] ⟨([.ptr 0 0, .top, .top, .top, .ptr 1 0, .ptr 2 0] ++ tops 29 ([])), [.cells 67 [.lst 4 pn pf, .sc (.int .i64 p), .sc (.bool p_1)], .cells 29 [.sc (.int .i64 c1), .sc (.int .i64 c1_1), .sc (.int .i64 c1_2), .sc (.int .i64 c1_3), .sc (.string c1_4), .sc (.int .i64 c1_5), .sc (.int .i64 c1_6), .sc (.bool c1_7), .sc (.bool c1_8), .sc (.int .i64 c1_9), .sc (.int .i64 c1_10), .sc (.bool c1_11), .sc (.bool c1_12), .nils], .cells 29 [.sc (.int .i64 out), .sc (.int .i64 out_1), .sc (.int .i64 out_2), .sc (.int .i64 out_3), .sc (.string out_4), .sc (.int .i64 out_5), .sc (.int .i64 out_6), .sc (.bool out_7), .sc (.bool out_8), .sc (.int .i64 out_9), .sc (.int .i64 out_10), .sc (.bool out_11), .sc (.bool out_12), .buf 3 0], .buf 29 0 xs3], (some 1)⟩
theorem f207h_eq (k : Nat) (name : ByteArray) (ln : Nat) (lf : Nat → PV) (at_ : Int) (wrong : Bool) : D 207 [.hp [.iptr (.ptr 67 0 :: [.lst 4 ln lf, .sc (.int .i64 at_), .sc (.bool wrong)])], .ptr 0 0, .sc (.string name)] =
 (D 233 [.sc (.string name)]).bind fun r1 => if hasSh (.int .i64) r1 = true then
 (D 133 [.hp [.iptr (.ptr 67 0 :: [.lst 4 ln lf, .sc (.int .i64 at_), .sc (.bool wrong)])], .ptr 0 0, .sc (.string (⟨#[41]⟩ : ByteArray))]).bind fun r2 => if (isHand r2 && (false || objsOk fo133 (handObjs r2)) && retOk Tryz.prog 6 [4] (handRet r2)) = true then
 if (handRet r2).toBool = true then
 some (.tup [.hp [.iptr (.ptr 67 0 :: [.lst 4 ((hCell 0 0 r2).len) ((hCell 0 0 r2).at), .sc (.int .i64 ((hCell 0 1 r2).toInt)), .sc (.bool ((hCell 0 2 r2).toBool))])], .agg [.sc (.int .i64 7), .sc (.int .i64 r1.toInt), .sc (.int .i64 0), .sc (.int .i64 0), .sc (.string (⟨#[]⟩ : ByteArray)), .sc (.int .i64 0), .sc (.int .i64 0), .sc (.bool false), .sc (.bool false), .sc (.int .i64 0), .sc (.int .i64 0), .sc (.bool false), .sc (.bool false), .nils]])
 else
 f207h.l0a k ((hCell 0 0 r2).len) ((hCell 0 0 r2).at) ((hCell 0 1 r2).toInt) ((hCell 0 2 r2).toBool) 0 0 0 0 (⟨#[]⟩ : ByteArray) 0 0 false false 0 0 false false 7 r1.toInt 0 0 (⟨#[]⟩ : ByteArray) 0 0 false false 0 0 false false
 else none
 else none :=
 (denI_eq k _ _).trans (by kernel_rfl)
theorem f207h.l0a_eq (k : Nat) (pn : Nat) (pf : Nat → PV) (p : Int) (p_1 : Bool) (c1 c1_1 c1_2 c1_3 : Int) (c1_4 : ByteArray) (c1_5 c1_6 : Int) (c1_7 c1_8 : Bool) (c1_9 c1_10 : Int) (c1_11 c1_12 : Bool) (out out_1 out_2 out_3 : Int) (out_4 : ByteArray) (out_5 out_6 : Int) (out_7 out_8 : Bool) (out_9 out_10 : Int) (out_11 out_12 : Bool) : f207h.l0a k pn pf p p_1 c1 c1_1 c1_2 c1_3 c1_4 c1_5 c1_6 c1_7 c1_8 c1_9 c1_10 c1_11 c1_12 out out_1 out_2 out_3 out_4 out_5 out_6 out_7 out_8 out_9 out_10 out_11 out_12 =
 (D 234 [.hp [.iptr (.ptr 67 0 :: [.lst 4 pn pf, .sc (.int .i64 p), .sc (.bool p_1)])], .ptr 0 0]).bind fun r3 => if (isHand r3 && (false || objsOk fo234 (handObjs r3)) && retOk Tryz.prog 6 [29] (handRet r3)) = true then
 if ([rbE (handRet r3)] : List PV).length * 120 ≤ 140737488355328 ∧ ([rbE (handRet r3)] : List PV).length ≤ 140737488355328 then
 if (hCell 0 2 r3).toBool = true then
 some (.tup [.hp [.iptr (.ptr 67 0 :: [.lst 4 ((hCell 0 0 r3).len) ((hCell 0 0 r3).at), .sc (.int .i64 ((hCell 0 1 r3).toInt)), .sc (.bool ((hCell 0 2 r3).toBool))])], .agg [.sc (.int .i64 0), .sc (.int .i64 0), .sc (.int .i64 0), .sc (.int .i64 0), .sc (.string (⟨#[]⟩ : ByteArray)), .sc (.int .i64 0), .sc (.int .i64 0), .sc (.bool false), .sc (.bool false), .sc (.int .i64 0), .sc (.int .i64 0), .sc (.bool false), .sc (.bool false), .nils]])
 else
 (D 133 [.hp [.iptr (.ptr 67 0 :: [.lst 4 ((hCell 0 0 r3).len) ((hCell 0 0 r3).at), .sc (.int .i64 ((hCell 0 1 r3).toInt)), .sc (.bool ((hCell 0 2 r3).toBool))])], .ptr 0 0, .sc (.string (⟨#[41]⟩ : ByteArray))]).bind fun r4 => if (isHand r4 && (false || objsOk fo133 (handObjs r4)) && retOk Tryz.prog 6 [4] (handRet r4)) = true then
 if (handRet r4).toBool = true then
 some (.tup [.hp [.iptr (.ptr 67 0 :: [.lst 4 ((hCell 0 0 r4).len) ((hCell 0 0 r4).at), .sc (.int .i64 ((hCell 0 1 r4).toInt)), .sc (.bool ((hCell 0 2 r4).toBool))])], .agg [.sc (.int .i64 out), .sc (.int .i64 out_1), .sc (.int .i64 out_2), .sc (.int .i64 out_3), .sc (.string out_4), .sc (.int .i64 out_5), .sc (.int .i64 out_6), .sc (.bool out_7), .sc (.bool out_8), .sc (.int .i64 out_9), .sc (.int .i64 out_10), .sc (.bool out_11), .sc (.bool out_12), frozen 14 ([rbE (handRet r3)] : List PV)]])
 else
 (D 133 [.hp [.iptr (.ptr 67 0 :: [.lst 4 ((hCell 0 0 r4).len) ((hCell 0 0 r4).at), .sc (.int .i64 ((hCell 0 1 r4).toInt)), .sc (.bool ((hCell 0 2 r4).toBool))])], .ptr 0 0, .sc (.string (⟨#[44]⟩ : ByteArray))]).bind fun r5 => if (isHand r5 && (false || objsOk fo133 (handObjs r5)) && retOk Tryz.prog 6 [4] (handRet r5)) = true then
 if (!((handRet r5).toBool)) = true then
 (D 182 [.hp [.iptr (.ptr 67 0 :: [.lst 4 ((hCell 0 0 r5).len) ((hCell 0 0 r5).at), .sc (.int .i64 ((hCell 0 1 r5).toInt)), .sc (.bool ((hCell 0 2 r5).toBool))])], .ptr 0 0]).bind fun r6 => if (isHand r6 && (false || objsOk fo182 (handObjs r6)) && retOk Tryz.prog 6 [29] (handRet r6)) = true then
 some (.tup [.hp [.iptr (.ptr 67 0 :: [.lst 4 ((hCell 0 0 r6).len) ((hCell 0 0 r6).at), .sc (.int .i64 ((hCell 0 1 r6).toInt)), .sc (.bool ((hCell 0 2 r6).toBool))])], rbE (handRet r6)])
 else none
 else
 f207h.l0b k ((hCell 0 0 r5).len) ((hCell 0 0 r5).at) ((hCell 0 1 r5).toInt) ((hCell 0 2 r5).toBool) c1 c1_1 c1_2 c1_3 c1_4 c1_5 c1_6 c1_7 c1_8 c1_9 c1_10 c1_11 c1_12 out out_1 out_2 out_3 out_4 out_5 out_6 out_7 out_8 out_9 out_10 out_11 out_12 ([rbE (handRet r3)] : List PV)
 else none
 else none
 else none
 else none :=
 (loopAt_eq _ _ _ _).trans (by kernel_rfl)
theorem f207h.l0b_eq (k : Nat) (pn : Nat) (pf : Nat → PV) (p : Int) (p_1 : Bool) (c1 c1_1 c1_2 c1_3 : Int) (c1_4 : ByteArray) (c1_5 c1_6 : Int) (c1_7 c1_8 : Bool) (c1_9 c1_10 : Int) (c1_11 c1_12 : Bool) (out out_1 out_2 out_3 : Int) (out_4 : ByteArray) (out_5 out_6 : Int) (out_7 out_8 : Bool) (out_9 out_10 : Int) (out_11 out_12 : Bool) (xs3 : List PV) : f207h.l0b k pn pf p p_1 c1 c1_1 c1_2 c1_3 c1_4 c1_5 c1_6 c1_7 c1_8 c1_9 c1_10 c1_11 c1_12 out out_1 out_2 out_3 out_4 out_5 out_6 out_7 out_8 out_9 out_10 out_11 out_12 xs3 =
 (D 234 [.hp [.iptr (.ptr 67 0 :: [.lst 4 pn pf, .sc (.int .i64 p), .sc (.bool p_1)])], .ptr 0 0]).bind fun r7 => if (isHand r7 && (false || objsOk fo234 (handObjs r7)) && retOk Tryz.prog 6 [29] (handRet r7)) = true then
 if (xs3.length + ([rbE (handRet r7)] : List PV).length) * 120 ≤ 140737488355328 ∧ xs3.length + ([rbE (handRet r7)] : List PV).length ≤ 140737488355328 then
 if (hCell 0 2 r7).toBool = true then
 some (.tup [.hp [.iptr (.ptr 67 0 :: [.lst 4 ((hCell 0 0 r7).len) ((hCell 0 0 r7).at), .sc (.int .i64 ((hCell 0 1 r7).toInt)), .sc (.bool ((hCell 0 2 r7).toBool))])], .agg [.sc (.int .i64 0), .sc (.int .i64 0), .sc (.int .i64 0), .sc (.int .i64 0), .sc (.string (⟨#[]⟩ : ByteArray)), .sc (.int .i64 0), .sc (.int .i64 0), .sc (.bool false), .sc (.bool false), .sc (.int .i64 0), .sc (.int .i64 0), .sc (.bool false), .sc (.bool false), .nils]])
 else
 (D 133 [.hp [.iptr (.ptr 67 0 :: [.lst 4 ((hCell 0 0 r7).len) ((hCell 0 0 r7).at), .sc (.int .i64 ((hCell 0 1 r7).toInt)), .sc (.bool ((hCell 0 2 r7).toBool))])], .ptr 0 0, .sc (.string (⟨#[41]⟩ : ByteArray))]).bind fun r8 => if (isHand r8 && (false || objsOk fo133 (handObjs r8)) && retOk Tryz.prog 6 [4] (handRet r8)) = true then
 if (handRet r8).toBool = true then
 some (.tup [.hp [.iptr (.ptr 67 0 :: [.lst 4 ((hCell 0 0 r8).len) ((hCell 0 0 r8).at), .sc (.int .i64 ((hCell 0 1 r8).toInt)), .sc (.bool ((hCell 0 2 r8).toBool))])], .agg [.sc (.int .i64 out), .sc (.int .i64 out_1), .sc (.int .i64 out_2), .sc (.int .i64 out_3), .sc (.string out_4), .sc (.int .i64 out_5), .sc (.int .i64 out_6), .sc (.bool out_7), .sc (.bool out_8), .sc (.int .i64 out_9), .sc (.int .i64 out_10), .sc (.bool out_11), .sc (.bool out_12), frozen 14 (xs3 ++ ([rbE (handRet r7)] : List PV))]])
 else
 (D 133 [.hp [.iptr (.ptr 67 0 :: [.lst 4 ((hCell 0 0 r8).len) ((hCell 0 0 r8).at), .sc (.int .i64 ((hCell 0 1 r8).toInt)), .sc (.bool ((hCell 0 2 r8).toBool))])], .ptr 0 0, .sc (.string (⟨#[44]⟩ : ByteArray))]).bind fun r9 => if (isHand r9 && (false || objsOk fo133 (handObjs r9)) && retOk Tryz.prog 6 [4] (handRet r9)) = true then
 if (!((handRet r9).toBool)) = true then
 (D 182 [.hp [.iptr (.ptr 67 0 :: [.lst 4 ((hCell 0 0 r9).len) ((hCell 0 0 r9).at), .sc (.int .i64 ((hCell 0 1 r9).toInt)), .sc (.bool ((hCell 0 2 r9).toBool))])], .ptr 0 0]).bind fun r10 => if (isHand r10 && (false || objsOk fo182 (handObjs r10)) && retOk Tryz.prog 6 [29] (handRet r10)) = true then
 some (.tup [.hp [.iptr (.ptr 67 0 :: [.lst 4 ((hCell 0 0 r10).len) ((hCell 0 0 r10).at), .sc (.int .i64 ((hCell 0 1 r10).toInt)), .sc (.bool ((hCell 0 2 r10).toBool))])], rbE (handRet r10)])
 else none
 else
 f207h.l0b k ((hCell 0 0 r9).len) ((hCell 0 0 r9).at) ((hCell 0 1 r9).toInt) ((hCell 0 2 r9).toBool) c1 c1_1 c1_2 c1_3 c1_4 c1_5 c1_6 c1_7 c1_8 c1_9 c1_10 c1_11 c1_12 out out_1 out_2 out_3 out_4 out_5 out_6 out_7 out_8 out_9 out_10 out_11 out_12 (xs3 ++ ([rbE (handRet r7)] : List PV))
 else none
 else none
 else none
 else none :=
 (loopAt_eq _ _ _ _).trans (by kernel_rfl)
-- oculus/fname.Number
noncomputable def f233.l0a (k : Nat) (name : ByteArray) (fn : Int) : Option PV := loopAt Tryz.prog cf ext hint k 233 [1, 0, 1, 0] ⟨([.sc (.string name), .top, .top, .sc (.int .i64 fn)] ++ tops 15 ([])), [], none⟩
theorem f233_eq (k : Nat) (name : ByteArray) : D 233 [.sc (.string name)] =
 f233.l0a k name 1 :=
 (denI_eq k _ _).trans (by kernel_rfl)
theorem f233.l0a_eq (k : Nat) (name : ByteArray) (fn : Int) : f233.l0a k name fn =
 if decide (fn ≤ 78) = true then
 (D 155 [.sc (.int .i64 fn)]).bind fun r1 => if hasSh (.tup [.str, .str]) r1 = true then
 if (((cel 0 r1.parts).toStr).toList == name.toList) = true then
 some (.sc (.int .i64 fn))
 else
 f233.l0a k name (IntKind.i64.wrap (fn + 1))
 else none
 else
 some (.sc (.int .i64 0)) :=
 (loopAt_eq _ _ _ _).trans (by kernel_rfl)
-- oculus/fname.row
noncomputable def f155.l0a (k : Nat) (fn : Int) (s_ rest : ByteArray) (n_ : Int) : Option PV := loopAt Tryz.prog cf ext hint k 155 [1, 1, 1, 0, 1, 0] ⟨([.sc (.int .i64 fn), .top, .top, .top, .sc (.string s_), .sc (.string rest), .top, .sc (.int .i64 n_)] ++ tops 35 ([])), [], none⟩
noncomputable def f155.l1a (k : Nat) (s_ : ByteArray) (k_ : Int) : Option PV := loopAt Tryz.prog cf ext hint k 155 [1, 1, 1, 1, 1, 0, 0] ⟨(tops 4 ([.sc (.string s_), .top, .top, .top, .sc (.int .i64 k_)] ++ tops 34 ([]))), [], none⟩
theorem f155_eq (k : Nat) (fn : Int) : D 155 [.sc (.int .i64 fn)] =
 Option.bind (α := PV) (
 if decide (fn < 1) = true then
 some (.sc (.bool true))
 else
 some (.sc (.bool (decide (fn > 78))))) fun r1 =>
 if r1.toBool = true then
 some (.tup [.sc (.string (⟨#[]⟩ : ByteArray)), .sc (.string (⟨#[]⟩ : ByteArray))])
 else
 (D 184 [.sc (.string (⟨#[65, 66, 83, 49, 49, 118, 59, 65, 78, 68, 49, 56, 101, 59, 65, 86, 69, 82, 65, 71, 69, 49, 56, 108, 59, 65, 86, 69, 82, 65, 71, 69, 73, 70, 50, 50, 114, 118, 59, 67, 69, 73, 76, 73, 78, 71, 50, 50, 118, 59, 67, 72, 65, 82, 49, 49, 118, 59, 67, 72, 79, 79, 83, 69, 50, 56, 101, 59, 67, 79, 68, 69, 49, 49, 118, 59, 67, 79, 76, 85, 77, 78, 49, 49, 110, 59, 67, 79, 76, 85, 77, 78, 83, 49, 49, 110, 59, 67, 79, 77, 66, 73, 78, 50, 50, 118, 59, 67, 79, 78, 67, 65, 84, 49, 56, 108, 59, 67, 79, 85, 78, 84, 49, 56, 108, 59, 67, 79, 85, 78, 84, 65, 49, 56, 108, 59, 67, 79, 85, 78, 84, 66, 76, 65, 78, 75, 49, 56, 108, 59, 67, 79, 85, 78, 84, 73, 70, 50, 50, 114, 118, 59, 68, 69, 67, 76, 65, 83, 83, 50, 50, 101, 116, 59, 69, 86, 69, 78, 49, 49, 118, 59, 69, 88, 65, 67, 84, 50, 50, 118, 59, 70, 65, 67, 84, 49, 49, 118, 59, 70, 73, 78, 68, 50, 50, 118, 59, 70, 76, 79, 79, 82, 50, 50, 118, 59, 71, 67, 68, 50, 50, 118, 59, 72, 76, 79, 79, 75, 85, 80, 51, 51, 118, 114, 118, 59, 73, 70, 50, 51, 101, 59, 73, 70, 69, 82, 82, 79, 82, 50, 50, 101, 59, 73, 78, 68, 69, 88, 50, 51, 114, 118, 59, 73, 78, 84, 49, 49, 118, 59, 73, 83, 66, 76, 65, 78, 75, 49, 49, 118, 59, 73, 83, 69, 82, 82, 79, 82, 49, 49, 118, 59, 73, 83, 76, 79, 71, 73, 67, 65, 76, 49, 49, 118, 59, 73, 83, 78, 85, 77, 66, 69, 82, 49, 49, 118, 59, 73, 83, 84, 69, 88, 84, 49, 49, 118, 59, 76, 65, 82, 71, 69, 50, 50, 114, 118, 59, 76, 67, 77, 50, 50, 118, 59, 76, 69, 70, 84, 50, 50, 118, 59, 76, 69, 78, 49, 49, 118, 59, 76, 79, 87, 69, 82, 49, 49, 118, 59, 77, 65, 84, 67, 72, 50, 50, 118, 114, 59, 77, 65, 88, 49, 56, 108, 59, 77, 69, 68, 73, 65, 78, 49, 56, 108, 59, 77, 73, 68, 51, 51, 118, 59, 77, 73, 78, 49, 56, 108, 59, 77, 79, 68, 50, 50, 118, 59, 77, 79, 68, 69, 49, 56, 108, 59, 78, 65, 48, 48, 59, 78, 79, 84, 49, 49, 118, 59, 79, 68, 68, 49, 49, 118, 59, 79, 82, 49, 56, 101, 59, 80, 79, 87, 69, 82, 50, 50, 118, 59, 80, 82, 79, 68, 85, 67, 84, 49, 56, 108, 59, 80, 82, 79, 80, 69, 82, 49, 49, 118, 59, 81, 85, 79, 84, 73, 69, 78, 84, 50, 50, 118, 59, 82, 65, 78, 75, 50, 50, 118, 114, 59, 82, 69, 80, 84, 50, 50, 118, 59, 82, 69, 86, 69, 82, 83, 69, 49, 49, 118, 59, 82, 73, 71, 72, 84, 50, 50, 118, 59, 82, 79, 85, 78, 68, 50, 50, 118, 59, 82, 79, 85, 78, 68, 68, 79, 87, 78, 50, 50, 118, 59, 82, 79, 85, 78, 68, 85, 80, 50, 50, 118, 59, 82, 79, 87, 49, 49, 110, 59, 82, 79, 87, 83, 49, 49, 110, 59, 83, 73, 71, 78, 49, 49, 118, 59, 83, 77, 65, 76, 76, 50, 50, 114, 118, 59, 83, 81, 82, 84, 49, 49, 118, 59, 83, 85, 66, 83, 84, 73, 84, 85, 84, 69, 51, 51, 118, 59, 83, 85, 77, 49, 56, 108, 59, 83, 85, 77, 73, 70, 50, 50, 114, 118, 59, 83, 85, 77, 80, 82, 79, 68, 85, 67, 84, 50, 50, 114, 59, 83, 85, 77, 83, 81, 49, 56, 108, 59, 83, 87, 73, 84, 67, 72, 51, 56, 101, 59, 84, 69, 88, 84, 50, 50, 118, 59, 84, 82, 73, 77, 49, 49, 118, 59, 84, 82, 85, 78, 67, 49, 49, 118, 59, 85, 80, 80, 69, 82, 49, 49, 118, 59, 86, 65, 76, 85, 69, 49, 49, 118, 59, 86, 76, 79, 79, 75, 85, 80, 51, 51, 118, 114, 118, 59, 88, 79, 82, 49, 56, 108]⟩ : ByteArray)), .sc (.string (⟨#[59]⟩ : ByteArray))]).bind fun r2 => if hasSh (.tup [.str, .str, .bool]) r2 = true then
 f155.l0a k fn ((cel 0 r2.parts).toStr) ((cel 1 r2.parts).toStr) 1
 else none :=
 (denI_eq k _ _).trans (by kernel_rfl)
theorem f155.l0a_eq (k : Nat) (fn : Int) (s_ rest : ByteArray) (n_ : Int) : f155.l0a k fn s_ rest n_ =
 if decide (n_ < fn) = true then
 (D 184 [.sc (.string rest), .sc (.string (⟨#[59]⟩ : ByteArray))]).bind fun r3 => if hasSh (.tup [.str, .str, .bool]) r3 = true then
 f155.l0a k fn ((cel 0 r3.parts).toStr) ((cel 1 r3.parts).toStr) (IntKind.i64.wrap (n_ + 1))
 else none
 else
 f155.l1a k s_ 0 :=
 (loopAt_eq _ _ _ _).trans (by kernel_rfl)
theorem f155.l1a_eq (k : Nat) (s_ : ByteArray) (k_ : Int) : f155.l1a k s_ k_ =
 if 0 ≤ k_ then
 if k_ < (s_.size : Int) then
 if decide ((bt s_ k_) ≥ 65) = true then
 f155.l1a k s_ (IntKind.i64.wrap (k_ + 1))
 else
 if 0 ≤ k_ then
 if k_ ≤ (s_.size : Int) then
 if 0 ≤ k_ then
 if 0 ≤ (s_.size : Int) then
 if (s_.size : Int) ≤ (s_.size : Int) then
 if 0 ≤ k_ then
 if k_ ≤ (s_.size : Int) then
 some (.tup [.sc (.string (s_.extract 0 k_.toNat)), .sc (.string (s_.extract k_.toNat (s_.size : Int).toNat))])
 else none
 else none
 else none
 else none
 else none
 else none
 else none
 else none
 else none :=
 (loopAt_eq _ _ _ _).trans (by kernel_rfl)
-- (*oculus/parse.parser).arg
noncomputable def f234h.j0a (k : Nat) (pn : Nat) (pf : Nat → PV) (p : Int) (p_1 : Bool) (c1 c1_1 c1_2 c1_3 : Int) (c1_4 : ByteArray) (c1_5 c1_6 : Int) (c1_7 c1_8 : Bool) (c1_9 c1_10 : Int) (c1_11 c1_12 : Bool) : Option PV := gateK k (placeAt Tryz.prog cf ext hint k 234 [1, 1, 1]) ⟨([.ptr 0 0, .top, .ptr 1 0] ++ tops 63 ([])), [.cells 67 [.lst 4 pn pf, .sc (.int .i64 p), .sc (.bool p_1)], .cells 29 [.sc (.int .i64 c1), .sc (.int .i64 c1_1), .sc (.int .i64 c1_2), .sc (.int .i64 c1_3), .sc (.string c1_4), .sc (.int .i64 c1_5), .sc (.int .i64 c1_6), .sc (.bool c1_7), .sc (.bool c1_8), .sc (.int .i64 c1_9), .sc (.int .i64 c1_10), .sc (.bool c1_11), .sc (.bool c1_12), .nils]], (some 1)⟩
theorem f234h_eq (k : Nat) (ln : Nat) (lf : Nat → PV) (at_ : Int) (wrong : Bool) : D 234 [.hp [.iptr (.ptr 67 0 :: [.lst 4 ln lf, .sc (.int .i64 at_), .sc (.bool wrong)])], .ptr 0 0] =
 (D 42 [.hp [.iptr (.ptr 67 0 :: [.lst 4 ln lf, .sc (.int .i64 at_), .sc (.bool wrong)])], .ptr 0 0]).bind fun r1 => if (isHand r1 && (false || objsOk fo42 (handObjs r1)) && retOk Tryz.prog 6 [70] (handRet r1)) = true then
 (D 14 [.sc (.string ((cel 2 (handRet r1).cells).toStr))]).bind fun r2 => if hasSh (.tup [(.agg [(.int .i64), (.int .i64), .bool, .bool]), .bool]) r2 = true then
 (D 42 [.hp [.iptr (.ptr 67 0 :: [.lst 4 ((hCell 0 0 r1).len) ((hCell 0 0 r1).at), .sc (.int .i64 ((hCell 0 1 r1).toInt)), .sc (.bool ((hCell 0 2 r1).toBool))])], .ptr 0 0]).bind fun r3 => if (isHand r3 && (false || objsOk fo42 (handObjs r3)) && retOk Tryz.prog 6 [70] (handRet r3)) = true then
 Option.bind (α := PV) (
 if (((cel 0 (handRet r3).cells).toInt) == 3) = true then
 some (.sc (.bool ((cel 1 r2.parts).toBool)))
 else
 some (.sc (.bool false))) fun r4 =>
 if r4.toBool = true then
 (D 133 [.hp [.iptr (.ptr 67 0 :: [.lst 4 ((hCell 0 0 r3).len) ((hCell 0 0 r3).at), .sc (.int .i64 (IntKind.i64.wrap (((hCell 0 1 r3).toInt) + 1))), .sc (.bool ((hCell 0 2 r3).toBool))])], .ptr 0 0, .sc (.string (⟨#[58]⟩ : ByteArray))]).bind fun r5 => if (isHand r5 && (false || objsOk fo133 (handObjs r5)) && retOk Tryz.prog 6 [4] (handRet r5)) = true then
 if (handRet r5).toBool = true then
 (D 42 [.hp [.iptr (.ptr 67 0 :: [.lst 4 ((hCell 0 0 r5).len) ((hCell 0 0 r5).at), .sc (.int .i64 ((hCell 0 1 r5).toInt)), .sc (.bool ((hCell 0 2 r5).toBool))])], .ptr 0 0]).bind fun r6 => if (isHand r6 && (false || objsOk fo42 (handObjs r6)) && retOk Tryz.prog 6 [70] (handRet r6)) = true then
 (D 14 [.sc (.string ((cel 2 (handRet r6).cells).toStr))]).bind fun r7 => if hasSh (.tup [(.agg [(.int .i64), (.int .i64), .bool, .bool]), .bool]) r7 = true then
 (D 42 [.hp [.iptr (.ptr 67 0 :: [.lst 4 ((hCell 0 0 r6).len) ((hCell 0 0 r6).at), .sc (.int .i64 ((hCell 0 1 r6).toInt)), .sc (.bool ((hCell 0 2 r6).toBool))])], .ptr 0 0]).bind fun r8 => if (isHand r8 && (false || objsOk fo42 (handObjs r8)) && retOk Tryz.prog 6 [70] (handRet r8)) = true then
 Option.bind (α := PV) (
 if (((cel 0 (handRet r8).cells).toInt) != 3) = true then
 some (.sc (.bool true))
 else
 some (.sc (.bool (!((cel 1 r7.parts).toBool))))) fun r9 =>
 if r9.toBool = true then
 (D 182 [.hp [.iptr (.ptr 67 0 :: [.lst 4 ((hCell 0 0 r8).len) ((hCell 0 0 r8).at), .sc (.int .i64 ((hCell 0 1 r8).toInt)), .sc (.bool ((hCell 0 2 r8).toBool))])], .ptr 0 0]).bind fun r10 => if (isHand r10 && (false || objsOk fo182 (handObjs r10)) && retOk Tryz.prog 6 [29] (handRet r10)) = true then
 some (.tup [.hp [.iptr (.ptr 67 0 :: [.lst 4 ((hCell 0 0 r10).len) ((hCell 0 0 r10).at), .sc (.int .i64 ((hCell 0 1 r10).toInt)), .sc (.bool ((hCell 0 2 r10).toBool))])], rbE (handRet r10)])
 else none
 else
 some (.tup [.hp [.iptr (.ptr 67 0 :: [.lst 4 ((hCell 0 0 r8).len) ((hCell 0 0 r8).at), .sc (.int .i64 (IntKind.i64.wrap (((hCell 0 1 r8).toInt) + 1))), .sc (.bool ((hCell 0 2 r8).toBool))])], .agg [.sc (.int .i64 4), .sc (.int .i64 0), .sc (.int .i64 0), .sc (.int .i64 0), .sc (.string (⟨#[]⟩ : ByteArray)), .sc (.int .i64 ((cel 0 (cel 0 r2.parts).cells).toInt)), .sc (.int .i64 ((cel 1 (cel 0 r2.parts).cells).toInt)), .sc (.bool ((cel 2 (cel 0 r2.parts).cells).toBool)), .sc (.bool ((cel 3 (cel 0 r2.parts).cells).toBool)), .sc (.int .i64 ((cel 0 (cel 0 r7.parts).cells).toInt)), .sc (.int .i64 ((cel 1 (cel 0 r7.parts).cells).toInt)), .sc (.bool ((cel 2 (cel 0 r7.parts).cells).toBool)), .sc (.bool ((cel 3 (cel 0 r7.parts).cells).toBool)), .nils]])
 else none
 else none
 else none
 else
 f234h.j0a k ((hCell 0 0 r5).len) ((hCell 0 0 r5).at) (IntKind.i64.wrap (((hCell 0 1 r5).toInt) - 1)) ((hCell 0 2 r5).toBool) 0 0 0 0 (⟨#[]⟩ : ByteArray) 0 0 false false 0 0 false false
 else none
 else
 f234h.j0a k ((hCell 0 0 r3).len) ((hCell 0 0 r3).at) ((hCell 0 1 r3).toInt) ((hCell 0 2 r3).toBool) 0 0 0 0 (⟨#[]⟩ : ByteArray) 0 0 false false 0 0 false false
 else none
 else none
 else none :=
 (denI_eq k _ _).trans (by kernel_rfl)
theorem f234h.j0a_eq (k : Nat) (pn : Nat) (pf : Nat → PV) (p : Int) (p_1 : Bool) (c1 c1_1 c1_2 c1_3 : Int) (c1_4 : ByteArray) (c1_5 c1_6 : Int) (c1_7 c1_8 : Bool) (c1_9 c1_10 : Int) (c1_11 c1_12 : Bool) : f234h.j0a k pn pf p p_1 c1 c1_1 c1_2 c1_3 c1_4 c1_5 c1_6 c1_7 c1_8 c1_9 c1_10 c1_11 c1_12 =
 (D 41 [.hp [.iptr (.ptr 67 0 :: [.lst 4 pn pf, .sc (.int .i64 p), .sc (.bool p_1)])], .ptr 0 0, .sc (.int .i64 1)]).bind fun r11 => if (isHand r11 && (false || objsOk fo41 (handObjs r11)) && retOk Tryz.prog 6 [29] (handRet r11)) = true then
 some (.tup [.hp [.iptr (.ptr 67 0 :: [.lst 4 ((hCell 0 0 r11).len) ((hCell 0 0 r11).at), .sc (.int .i64 ((hCell 0 1 r11).toInt)), .sc (.bool ((hCell 0 2 r11).toBool))])], rbE (handRet r11)])
 else none :=
 (gateK_open _ _ _).trans (by kernel_rfl)
end ET
end Go.Den
