import Derived.Test.YtkhbkbkambflbaaGreatDoorETh
import Derived.KernelRfl
set_option maxRecDepth 100000
set_option linter.unusedVariables false
namespace Go.Den
open Go Go.Proofs
namespace ET
-- (*oculus/parse.parser).binary
noncomputable def f41h.l0a (k : Nat) (level : Int) (pn : Nat) (pf : Nat → PV) (p : Int) (p_1 : Bool) (c1 c1_1 c1_2 c1_3 : Int) (c1_4 : ByteArray) (c1_5 c1_6 : Int) (c1_7 c1_8 : Bool) (c1_9 c1_10 : Int) (c1_11 c1_12 : Bool) (out out_1 out_2 out_3 : Int) (out_4 : ByteArray) (out_5 out_6 : Int) (out_7 out_8 : Bool) (out_9 out_10 : Int) (out_11 out_12 : Bool) (outn : Nat) (outf : Nat → PV) : Option PV := loopAt Tryz.prog cf ext hint k 41 [1, 1, 1, 0, 0] ⟨([.ptr 0 0, .sc (.int .i64 level), .top, .top, .ptr 1 0, .ptr 2 0] ++ tops 43 ([])), [.cells 67 [.lst 4 pn pf, .sc (.int .i64 p), .sc (.bool p_1)], .cells 29 [.sc (.int .i64 c1), .sc (.int .i64 c1_1), .sc (.int .i64 c1_2), .sc (.int .i64 c1_3), .sc (.string c1_4), .sc (.int .i64 c1_5), .sc (.int .i64 c1_6), .sc (.bool c1_7), .sc (.bool c1_8), .sc (.int .i64 c1_9), .sc (.int .i64 c1_10), .sc (.bool c1_11), .sc (.bool c1_12), .nils], .cells 29 [.sc (.int .i64 out), .sc (.int .i64 out_1), .sc (.int .i64 out_2), .sc (.int .i64 out_3), .sc (.string out_4), .sc (.int .i64 out_5), .sc (.int .i64 out_6), .sc (.bool out_7), .sc (.bool out_8), .sc (.int .i64 out_9), .sc (.int .i64 out_10), .sc (.bool out_11), .sc (.bool out_12), .lst 14 outn outf]], (some 1)⟩
noncomputable def f41h.l0b (k : Nat) (level : Int) (pn : Nat) (pf : Nat → PV) (p : Int) (p_1 : Bool) (c1 c1_1 c1_2 c1_3 : Int) (c1_4 : ByteArray) (c1_5 c1_6 : Int) (c1_7 c1_8 : Bool) (c1_9 c1_10 : Int) (c1_11 c1_12 : Bool) (out out_1 out_2 out_3 : Int) (out_4 : ByteArray) (out_5 out_6 : Int) (out_7 out_8 : Bool) (out_9 out_10 : Int) (out_11 out_12 : Bool) (xs3 : List PV) : Option PV := loopAt Tryz.prog cf ext hint k 41 [1, 1, 1, 0, 0] ⟨([.ptr 0 0, .sc (.int .i64 level), .top, .top, .ptr 1 0, .ptr 2 0] ++ tops 43 ([])), [.cells 67 [.lst 4 pn pf, .sc (.int .i64 p), .sc (.bool p_1)], .cells 29 [.sc (.int .i64 c1), .sc (.int .i64 c1_1), .sc (.int .i64 c1_2), .sc (.int .i64 c1_3), .sc (.string c1_4), .sc (.int .i64 c1_5), .sc (.int .i64 c1_6), .sc (.bool c1_7), .sc (.bool c1_8), .sc (.int .i64 c1_9), .sc (.int .i64 c1_10), .sc (.bool c1_11), .sc (.bool c1_12), .nils], .cells 29 [.sc (.int .i64 out), .sc (.int .i64 out_1), .sc (.int .i64 out_2), .sc (.int .i64 out_3), .sc (.string out_4), .sc (.int .i64 out_5), .sc (.int .i64 out_6), .sc (.bool out_7), .sc (.bool out_8), .sc (.int .i64 out_9), .sc (.int .i64 out_10), .sc (.bool out_11), .sc (.bool out_12), .buf 3 0], .buf 29 0 xs3], (some 1)⟩
theorem f41h_eq (k : Nat) (level : Int) (ln : Nat) (lf : Nat → PV) (at_ : Int) (wrong : Bool) : D 41 [.hp [.iptr (.ptr 67 0 :: [.lst 4 ln lf, .sc (.int .i64 at_), .sc (.bool wrong)])], .ptr 0 0, .sc (.int .i64 level)] =
 if decide (level > 5) = true then
 (D 79 [.hp [.iptr (.ptr 67 0 :: [.lst 4 ln lf, .sc (.int .i64 at_), .sc (.bool wrong)])], .ptr 0 0]).bind fun r1 => if (isHand r1 && (false || objsOk fo79 (handObjs r1)) && retOk Tryz.prog 6 [29] (handRet r1)) = true then
 some (.tup [.hp [.iptr (.ptr 67 0 :: [.lst 4 ((hCell 0 0 r1).len) ((hCell 0 0 r1).at), .sc (.int .i64 ((hCell 0 1 r1).toInt)), .sc (.bool ((hCell 0 2 r1).toBool))])], rbE (handRet r1)])
 else none
 else
 (D 41 [.hp [.iptr (.ptr 67 0 :: [.lst 4 ln lf, .sc (.int .i64 at_), .sc (.bool wrong)])], .ptr 0 0, .sc (.int .i64 (IntKind.i64.wrap (level + 1)))]).bind fun r2 => if (isHand r2 && (false || objsOk fo41 (handObjs r2)) && retOk Tryz.prog 6 [29] (handRet r2)) = true then
 f41h.l0a k level ((hCell 0 0 r2).len) ((hCell 0 0 r2).at) ((hCell 0 1 r2).toInt) ((hCell 0 2 r2).toBool) 0 0 0 0 (⟨#[]⟩ : ByteArray) 0 0 false false 0 0 false false ((cel 0 (handRet r2).cells).toInt) ((cel 1 (handRet r2).cells).toInt) ((cel 2 (handRet r2).cells).toInt) ((cel 3 (handRet r2).cells).toInt) ((cel 4 (handRet r2).cells).toStr) ((cel 5 (handRet r2).cells).toInt) ((cel 6 (handRet r2).cells).toInt) ((cel 7 (handRet r2).cells).toBool) ((cel 8 (handRet r2).cells).toBool) ((cel 9 (handRet r2).cells).toInt) ((cel 10 (handRet r2).cells).toInt) ((cel 11 (handRet r2).cells).toBool) ((cel 12 (handRet r2).cells).toBool) ((cel 13 (handRet r2).cells).len) ((cel 13 (handRet r2).cells).at)
 else none :=
 (denI_eq k _ _).trans (by kernel_rfl)
theorem f41h.l0a_eq (k : Nat) (level : Int) (pn : Nat) (pf : Nat → PV) (p : Int) (p_1 : Bool) (c1 c1_1 c1_2 c1_3 : Int) (c1_4 : ByteArray) (c1_5 c1_6 : Int) (c1_7 c1_8 : Bool) (c1_9 c1_10 : Int) (c1_11 c1_12 : Bool) (out out_1 out_2 out_3 : Int) (out_4 : ByteArray) (out_5 out_6 : Int) (out_7 out_8 : Bool) (out_9 out_10 : Int) (out_11 out_12 : Bool) (outn : Nat) (outf : Nat → PV) : f41h.l0a k level pn pf p p_1 c1 c1_1 c1_2 c1_3 c1_4 c1_5 c1_6 c1_7 c1_8 c1_9 c1_10 c1_11 c1_12 out out_1 out_2 out_3 out_4 out_5 out_6 out_7 out_8 out_9 out_10 out_11 out_12 outn outf =
 if (!p_1) = true then
 (D 42 [.hp [.iptr (.ptr 67 0 :: [.lst 4 pn pf, .sc (.int .i64 p), .sc (.bool p_1)])], .ptr 0 0]).bind fun r3 => if (isHand r3 && (false || objsOk fo42 (handObjs r3)) && retOk Tryz.prog 6 [70] (handRet r3)) = true then
 if (((cel 0 (handRet r3).cells).toInt) == 4) = true then
 (D 42 [.hp [.iptr (.ptr 67 0 :: [.lst 4 ((hCell 0 0 r3).len) ((hCell 0 0 r3).at), .sc (.int .i64 ((hCell 0 1 r3).toInt)), .sc (.bool ((hCell 0 2 r3).toBool))])], .ptr 0 0]).bind fun r4 => if (isHand r4 && (false || objsOk fo42 (handObjs r4)) && retOk Tryz.prog 6 [70] (handRet r4)) = true then
 (D 80 [.sc (.int .i64 level), .sc (.string ((cel 2 (handRet r4).cells).toStr))]).bind fun r5 => if hasSh (.int .i64) r5 = true then
 if (r5.toInt == 0) = true then
 some (.tup [.hp [.iptr (.ptr 67 0 :: [.lst 4 ((hCell 0 0 r4).len) ((hCell 0 0 r4).at), .sc (.int .i64 ((hCell 0 1 r4).toInt)), .sc (.bool ((hCell 0 2 r4).toBool))])], .agg [.sc (.int .i64 out), .sc (.int .i64 out_1), .sc (.int .i64 out_2), .sc (.int .i64 out_3), .sc (.string out_4), .sc (.int .i64 out_5), .sc (.int .i64 out_6), .sc (.bool out_7), .sc (.bool out_8), .sc (.int .i64 out_9), .sc (.int .i64 out_10), .sc (.bool out_11), .sc (.bool out_12), .lst 14 outn outf]])
 else
 (D 41 [.hp [.iptr (.ptr 67 0 :: [.lst 4 ((hCell 0 0 r4).len) ((hCell 0 0 r4).at), .sc (.int .i64 (IntKind.i64.wrap (((hCell 0 1 r4).toInt) + 1))), .sc (.bool ((hCell 0 2 r4).toBool))])], .ptr 0 0, .sc (.int .i64 (IntKind.i64.wrap (level + 1)))]).bind fun r6 => if (isHand r6 && (false || objsOk fo41 (handObjs r6)) && retOk Tryz.prog 6 [29] (handRet r6)) = true then
 f41h.l0b k level ((hCell 0 0 r6).len) ((hCell 0 0 r6).at) ((hCell 0 1 r6).toInt) ((hCell 0 2 r6).toBool) c1 c1_1 c1_2 c1_3 c1_4 c1_5 c1_6 c1_7 c1_8 c1_9 c1_10 c1_11 c1_12 6 r5.toInt 0 0 (⟨#[]⟩ : ByteArray) 0 0 false false 0 0 false false ([.agg [.sc (.int .i64 out), .sc (.int .i64 out_1), .sc (.int .i64 out_2), .sc (.int .i64 out_3), .sc (.string out_4), .sc (.int .i64 out_5), .sc (.int .i64 out_6), .sc (.bool out_7), .sc (.bool out_8), .sc (.int .i64 out_9), .sc (.int .i64 out_10), .sc (.bool out_11), .sc (.bool out_12), .lst 14 outn outf], rbE (handRet r6)] : List PV)
 else none
 else none
 else none
 else
 some (.tup [.hp [.iptr (.ptr 67 0 :: [.lst 4 ((hCell 0 0 r3).len) ((hCell 0 0 r3).at), .sc (.int .i64 ((hCell 0 1 r3).toInt)), .sc (.bool ((hCell 0 2 r3).toBool))])], .agg [.sc (.int .i64 out), .sc (.int .i64 out_1), .sc (.int .i64 out_2), .sc (.int .i64 out_3), .sc (.string out_4), .sc (.int .i64 out_5), .sc (.int .i64 out_6), .sc (.bool out_7), .sc (.bool out_8), .sc (.int .i64 out_9), .sc (.int .i64 out_10), .sc (.bool out_11), .sc (.bool out_12), .lst 14 outn outf]])
 else none
 else
 some (.tup [.hp [.iptr (.ptr 67 0 :: [.lst 4 pn pf, .sc (.int .i64 p), .sc (.bool p_1)])], .agg [.sc (.int .i64 out), .sc (.int .i64 out_1), .sc (.int .i64 out_2), .sc (.int .i64 out_3), .sc (.string out_4), .sc (.int .i64 out_5), .sc (.int .i64 out_6), .sc (.bool out_7), .sc (.bool out_8), .sc (.int .i64 out_9), .sc (.int .i64 out_10), .sc (.bool out_11), .sc (.bool out_12), .lst 14 outn outf]]) :=
 (loopAt_eq _ _ _ _).trans (by kernel_rfl)
theorem f41h.l0b_eq (k : Nat) (level : Int) (pn : Nat) (pf : Nat → PV) (p : Int) (p_1 : Bool) (c1 c1_1 c1_2 c1_3 : Int) (c1_4 : ByteArray) (c1_5 c1_6 : Int) (c1_7 c1_8 : Bool) (c1_9 c1_10 : Int) (c1_11 c1_12 : Bool) (out out_1 out_2 out_3 : Int) (out_4 : ByteArray) (out_5 out_6 : Int) (out_7 out_8 : Bool) (out_9 out_10 : Int) (out_11 out_12 : Bool) (xs3 : List PV) : f41h.l0b k level pn pf p p_1 c1 c1_1 c1_2 c1_3 c1_4 c1_5 c1_6 c1_7 c1_8 c1_9 c1_10 c1_11 c1_12 out out_1 out_2 out_3 out_4 out_5 out_6 out_7 out_8 out_9 out_10 out_11 out_12 xs3 =
 if (!p_1) = true then
 (D 42 [.hp [.iptr (.ptr 67 0 :: [.lst 4 pn pf, .sc (.int .i64 p), .sc (.bool p_1)])], .ptr 0 0]).bind fun r7 => if (isHand r7 && (false || objsOk fo42 (handObjs r7)) && retOk Tryz.prog 6 [70] (handRet r7)) = true then
 if (((cel 0 (handRet r7).cells).toInt) == 4) = true then
 (D 42 [.hp [.iptr (.ptr 67 0 :: [.lst 4 ((hCell 0 0 r7).len) ((hCell 0 0 r7).at), .sc (.int .i64 ((hCell 0 1 r7).toInt)), .sc (.bool ((hCell 0 2 r7).toBool))])], .ptr 0 0]).bind fun r8 => if (isHand r8 && (false || objsOk fo42 (handObjs r8)) && retOk Tryz.prog 6 [70] (handRet r8)) = true then
 (D 80 [.sc (.int .i64 level), .sc (.string ((cel 2 (handRet r8).cells).toStr))]).bind fun r9 => if hasSh (.int .i64) r9 = true then
 if (r9.toInt == 0) = true then
 some (.tup [.hp [.iptr (.ptr 67 0 :: [.lst 4 ((hCell 0 0 r8).len) ((hCell 0 0 r8).at), .sc (.int .i64 ((hCell 0 1 r8).toInt)), .sc (.bool ((hCell 0 2 r8).toBool))])], .agg [.sc (.int .i64 out), .sc (.int .i64 out_1), .sc (.int .i64 out_2), .sc (.int .i64 out_3), .sc (.string out_4), .sc (.int .i64 out_5), .sc (.int .i64 out_6), .sc (.bool out_7), .sc (.bool out_8), .sc (.int .i64 out_9), .sc (.int .i64 out_10), .sc (.bool out_11), .sc (.bool out_12), frozen 14 xs3]])
 else
 (D 41 [.hp [.iptr (.ptr 67 0 :: [.lst 4 ((hCell 0 0 r8).len) ((hCell 0 0 r8).at), .sc (.int .i64 (IntKind.i64.wrap (((hCell 0 1 r8).toInt) + 1))), .sc (.bool ((hCell 0 2 r8).toBool))])], .ptr 0 0, .sc (.int .i64 (IntKind.i64.wrap (level + 1)))]).bind fun r10 => if (isHand r10 && (false || objsOk fo41 (handObjs r10)) && retOk Tryz.prog 6 [29] (handRet r10)) = true then
 f41h.l0b k level ((hCell 0 0 r10).len) ((hCell 0 0 r10).at) ((hCell 0 1 r10).toInt) ((hCell 0 2 r10).toBool) c1 c1_1 c1_2 c1_3 c1_4 c1_5 c1_6 c1_7 c1_8 c1_9 c1_10 c1_11 c1_12 6 r9.toInt 0 0 (⟨#[]⟩ : ByteArray) 0 0 false false 0 0 false false ([.agg [.sc (.int .i64 out), .sc (.int .i64 out_1), .sc (.int .i64 out_2), .sc (.int .i64 out_3), .sc (.string out_4), .sc (.int .i64 out_5), .sc (.int .i64 out_6), .sc (.bool out_7), .sc (.bool out_8), .sc (.int .i64 out_9), .sc (.int .i64 out_10), .sc (.bool out_11), .sc (.bool out_12), frozen 14 xs3], rbE (handRet r10)] : List PV)
 else none
 else none
 else none
 else
 some (.tup [.hp [.iptr (.ptr 67 0 :: [.lst 4 ((hCell 0 0 r7).len) ((hCell 0 0 r7).at), .sc (.int .i64 ((hCell 0 1 r7).toInt)), .sc (.bool ((hCell 0 2 r7).toBool))])], .agg [.sc (.int .i64 out), .sc (.int .i64 out_1), .sc (.int .i64 out_2), .sc (.int .i64 out_3), .sc (.string out_4), .sc (.int .i64 out_5), .sc (.int .i64 out_6), .sc (.bool out_7), .sc (.bool out_8), .sc (.int .i64 out_9), .sc (.int .i64 out_10), .sc (.bool out_11), .sc (.bool out_12), frozen 14 xs3]])
 else none
 else
 some (.tup [.hp [.iptr (.ptr 67 0 :: [.lst 4 pn pf, .sc (.int .i64 p), .sc (.bool p_1)])], .agg [.sc (.int .i64 out), .sc (.int .i64 out_1), .sc (.int .i64 out_2), .sc (.int .i64 out_3), .sc (.string out_4), .sc (.int .i64 out_5), .sc (.int .i64 out_6), .sc (.bool out_7), .sc (.bool out_8), .sc (.int .i64 out_9), .sc (.int .i64 out_10), .sc (.bool out_11), .sc (.bool out_12), frozen 14 xs3]]) :=
 (loopAt_eq _ _ _ _).trans (by kernel_rfl)
-- (*oculus/parse.parser).now
theorem f42h_eq (k : Nat) (ln : Nat) (lf : Nat → PV) (at_ : Int) (wrong : Bool) : D 42 [.hp [.iptr (.ptr 67 0 :: [.lst 4 ln lf, .sc (.int .i64 at_), .sc (.bool wrong)])], .ptr 0 0] =
 if 0 ≤ (if IntKind.i64.wrap ((ln : Int) - 1) < at_ then IntKind.i64.wrap ((ln : Int) - 1) else at_) then
 if (if IntKind.i64.wrap ((ln : Int) - 1) < at_ then IntKind.i64.wrap ((ln : Int) - 1) else at_) < (ln : Int) then
 if hasSh (.agg [(.int .i64), (.int .i64), .str, (.int .i64)]) (lf (if IntKind.i64.wrap ((ln : Int) - 1) < at_ then IntKind.i64.wrap ((ln : Int) - 1) else at_).toNat) = true then
 some (.tup [.hp [.iptr (.ptr 67 0 :: [.lst 4 ln lf, .sc (.int .i64 at_), .sc (.bool wrong)])], .agg [.sc (.int .i64 ((cel 0 (lf (if IntKind.i64.wrap ((ln : Int) - 1) < at_ then IntKind.i64.wrap ((ln : Int) - 1) else at_).toNat).cells).toInt)), .sc (.int .i64 ((cel 1 (lf (if IntKind.i64.wrap ((ln : Int) - 1) < at_ then IntKind.i64.wrap ((ln : Int) - 1) else at_).toNat).cells).toInt)), .sc (.string ((cel 2 (lf (if IntKind.i64.wrap ((ln : Int) - 1) < at_ then IntKind.i64.wrap ((ln : Int) - 1) else at_).toNat).cells).toStr)), .sc (.int .i64 ((cel 3 (lf (if IntKind.i64.wrap ((ln : Int) - 1) < at_ then IntKind.i64.wrap ((ln : Int) - 1) else at_).toNat).cells).toInt))]])
 else none
 else none
 else none :=
 (denI_eq k _ _).trans (by kernel_rfl)
-- (*oculus/parse.parser).signed
theorem f79h_eq (k : Nat) (ln : Nat) (lf : Nat → PV) (at_ : Int) (wrong : Bool) : D 79 [.hp [.iptr (.ptr 67 0 :: [.lst 4 ln lf, .sc (.int .i64 at_), .sc (.bool wrong)])], .ptr 0 0] =
 (D 133 [.hp [.iptr (.ptr 67 0 :: [.lst 4 ln lf, .sc (.int .i64 at_), .sc (.bool wrong)])], .ptr 0 0, .sc (.string (⟨#[45]⟩ : ByteArray))]).bind fun r1 => if (isHand r1 && (false || objsOk fo133 (handObjs r1)) && retOk Tryz.prog 6 [4] (handRet r1)) = true then
 if (handRet r1).toBool = true then
 (D 79 [.hp [.iptr (.ptr 67 0 :: [.lst 4 ((hCell 0 0 r1).len) ((hCell 0 0 r1).at), .sc (.int .i64 ((hCell 0 1 r1).toInt)), .sc (.bool ((hCell 0 2 r1).toBool))])], .ptr 0 0]).bind fun r2 => if (isHand r2 && (false || objsOk fo79 (handObjs r2)) && retOk Tryz.prog 6 [29] (handRet r2)) = true then
 some (.tup [.hp [.iptr (.ptr 67 0 :: [.lst 4 ((hCell 0 0 r2).len) ((hCell 0 0 r2).at), .sc (.int .i64 ((hCell 0 1 r2).toInt)), .sc (.bool ((hCell 0 2 r2).toBool))])], .agg [.sc (.int .i64 5), .sc (.int .i64 0), .sc (.int .i64 0), .sc (.int .i64 0), .sc (.string (⟨#[]⟩ : ByteArray)), .sc (.int .i64 0), .sc (.int .i64 0), .sc (.bool false), .sc (.bool false), .sc (.int .i64 0), .sc (.int .i64 0), .sc (.bool false), .sc (.bool false), frozen 14 ([rbE (handRet r2)] : List PV)]])
 else none
 else
 (D 134 [.hp [.iptr (.ptr 67 0 :: [.lst 4 ((hCell 0 0 r1).len) ((hCell 0 0 r1).at), .sc (.int .i64 ((hCell 0 1 r1).toInt)), .sc (.bool ((hCell 0 2 r1).toBool))])], .ptr 0 0]).bind fun r3 => if (isHand r3 && (false || objsOk fo134 (handObjs r3)) && retOk Tryz.prog 6 [29] (handRet r3)) = true then
 some (.tup [.hp [.iptr (.ptr 67 0 :: [.lst 4 ((hCell 0 0 r3).len) ((hCell 0 0 r3).at), .sc (.int .i64 ((hCell 0 1 r3).toInt)), .sc (.bool ((hCell 0 2 r3).toBool))])], rbE (handRet r3)])
 else none
 else none :=
 (denI_eq k _ _).trans (by kernel_rfl)
-- (*oculus/parse.parser).sign
theorem f133h_eq (k : Nat) (t : ByteArray) (ln : Nat) (lf : Nat → PV) (at_ : Int) (wrong : Bool) : D 133 [.hp [.iptr (.ptr 67 0 :: [.lst 4 ln lf, .sc (.int .i64 at_), .sc (.bool wrong)])], .ptr 0 0, .sc (.string t)] =
 (D 42 [.hp [.iptr (.ptr 67 0 :: [.lst 4 ln lf, .sc (.int .i64 at_), .sc (.bool wrong)])], .ptr 0 0]).bind fun r1 => if (isHand r1 && (false || objsOk fo42 (handObjs r1)) && retOk Tryz.prog 6 [70] (handRet r1)) = true then
 Option.bind (α := PV) (
 if (((cel 0 (handRet r1).cells).toInt) != 4) = true then
 some (.sc (.bool true))
 else
 some (.sc (.bool (!(((cel 2 (handRet r1).cells).toStr).toList == t.toList))))) fun r2 =>
 if r2.toBool = true then
 some (.tup [.hp [.iptr (.ptr 67 0 :: [.lst 4 ((hCell 0 0 r1).len) ((hCell 0 0 r1).at), .sc (.int .i64 ((hCell 0 1 r1).toInt)), .sc (.bool ((hCell 0 2 r1).toBool))])], .sc (.bool false)])
 else
 some (.tup [.hp [.iptr (.ptr 67 0 :: [.lst 4 ((hCell 0 0 r1).len) ((hCell 0 0 r1).at), .sc (.int .i64 (IntKind.i64.wrap (((hCell 0 1 r1).toInt) + 1))), .sc (.bool ((hCell 0 2 r1).toBool))])], .sc (.bool true)])
 else none :=
 (denI_eq k _ _).trans (by kernel_rfl)
-- (*oculus/parse.parser).atom
theorem f134h_eq (k : Nat) (ln : Nat) (lf : Nat → PV) (at_ : Int) (wrong : Bool) : D 134 [.hp [.iptr (.ptr 67 0 :: [.lst 4 ln lf, .sc (.int .i64 at_), .sc (.bool wrong)])], .ptr 0 0] =
 (D 42 [.hp [.iptr (.ptr 67 0 :: [.lst 4 ln lf, .sc (.int .i64 at_), .sc (.bool wrong)])], .ptr 0 0]).bind fun r1 => if (isHand r1 && (false || objsOk fo42 (handObjs r1)) && retOk Tryz.prog 6 [70] (handRet r1)) = true then
 if (hCell 0 2 r1).toBool = true then
 some (.tup [.hp [.iptr (.ptr 67 0 :: [.lst 4 ((hCell 0 0 r1).len) ((hCell 0 0 r1).at), .sc (.int .i64 ((hCell 0 1 r1).toInt)), .sc (.bool ((hCell 0 2 r1).toBool))])], .agg [.sc (.int .i64 0), .sc (.int .i64 0), .sc (.int .i64 0), .sc (.int .i64 0), .sc (.string (⟨#[]⟩ : ByteArray)), .sc (.int .i64 0), .sc (.int .i64 0), .sc (.bool false), .sc (.bool false), .sc (.int .i64 0), .sc (.int .i64 0), .sc (.bool false), .sc (.bool false), .nils]])
 else
 if (((cel 0 (handRet r1).cells).toInt) == 1) = true then
 some (.tup [.hp [.iptr (.ptr 67 0 :: [.lst 4 ((hCell 0 0 r1).len) ((hCell 0 0 r1).at), .sc (.int .i64 (IntKind.i64.wrap (((hCell 0 1 r1).toInt) + 1))), .sc (.bool ((hCell 0 2 r1).toBool))])], .agg [.sc (.int .i64 1), .sc (.int .i64 0), .sc (.int .i64 1), .sc (.int .i64 ((cel 3 (handRet r1).cells).toInt)), .sc (.string (⟨#[]⟩ : ByteArray)), .sc (.int .i64 0), .sc (.int .i64 0), .sc (.bool false), .sc (.bool false), .sc (.int .i64 0), .sc (.int .i64 0), .sc (.bool false), .sc (.bool false), .nils]])
 else
 if (((cel 0 (handRet r1).cells).toInt) == 2) = true then
 some (.tup [.hp [.iptr (.ptr 67 0 :: [.lst 4 ((hCell 0 0 r1).len) ((hCell 0 0 r1).at), .sc (.int .i64 (IntKind.i64.wrap (((hCell 0 1 r1).toInt) + 1))), .sc (.bool ((hCell 0 2 r1).toBool))])], .agg [.sc (.int .i64 1), .sc (.int .i64 0), .sc (.int .i64 2), .sc (.int .i64 0), .sc (.string ((cel 2 (handRet r1).cells).toStr)), .sc (.int .i64 0), .sc (.int .i64 0), .sc (.bool false), .sc (.bool false), .sc (.int .i64 0), .sc (.int .i64 0), .sc (.bool false), .sc (.bool false), .nils]])
 else
 if (((cel 0 (handRet r1).cells).toInt) == 3) = true then
 (D 181 [.hp [.iptr (.ptr 67 0 :: [.lst 4 ((hCell 0 0 r1).len) ((hCell 0 0 r1).at), .sc (.int .i64 (IntKind.i64.wrap (((hCell 0 1 r1).toInt) + 1))), .sc (.bool ((hCell 0 2 r1).toBool))])], .ptr 0 0, .sc (.string ((cel 2 (handRet r1).cells).toStr))]).bind fun r2 => if (isHand r2 && (false || objsOk fo181 (handObjs r2)) && retOk Tryz.prog 6 [29] (handRet r2)) = true then
 some (.tup [.hp [.iptr (.ptr 67 0 :: [.lst 4 ((hCell 0 0 r2).len) ((hCell 0 0 r2).at), .sc (.int .i64 ((hCell 0 1 r2).toInt)), .sc (.bool ((hCell 0 2 r2).toBool))])], rbE (handRet r2)])
 else none
 else
 (D 133 [.hp [.iptr (.ptr 67 0 :: [.lst 4 ((hCell 0 0 r1).len) ((hCell 0 0 r1).at), .sc (.int .i64 ((hCell 0 1 r1).toInt)), .sc (.bool ((hCell 0 2 r1).toBool))])], .ptr 0 0, .sc (.string (⟨#[35, 82, 69, 70]⟩ : ByteArray))]).bind fun r3 => if (isHand r3 && (false || objsOk fo133 (handObjs r3)) && retOk Tryz.prog 6 [4] (handRet r3)) = true then
 if (handRet r3).toBool = true then
 some (.tup [.hp [.iptr (.ptr 67 0 :: [.lst 4 ((hCell 0 0 r3).len) ((hCell 0 0 r3).at), .sc (.int .i64 ((hCell 0 1 r3).toInt)), .sc (.bool ((hCell 0 2 r3).toBool))])], .agg [.sc (.int .i64 2), .sc (.int .i64 0), .sc (.int .i64 0), .sc (.int .i64 0), .sc (.string (⟨#[]⟩ : ByteArray)), .sc (.int .i64 0), .sc (.int .i64 0), .sc (.bool false), .sc (.bool false), .sc (.int .i64 0), .sc (.int .i64 0), .sc (.bool false), .sc (.bool false), .nils]])
 else
 (D 133 [.hp [.iptr (.ptr 67 0 :: [.lst 4 ((hCell 0 0 r3).len) ((hCell 0 0 r3).at), .sc (.int .i64 ((hCell 0 1 r3).toInt)), .sc (.bool ((hCell 0 2 r3).toBool))])], .ptr 0 0, .sc (.string (⟨#[40]⟩ : ByteArray))]).bind fun r4 => if (isHand r4 && (false || objsOk fo133 (handObjs r4)) && retOk Tryz.prog 6 [4] (handRet r4)) = true then
 if (handRet r4).toBool = true then
 (D 41 [.hp [.iptr (.ptr 67 0 :: [.lst 4 ((hCell 0 0 r4).len) ((hCell 0 0 r4).at), .sc (.int .i64 ((hCell 0 1 r4).toInt)), .sc (.bool ((hCell 0 2 r4).toBool))])], .ptr 0 0, .sc (.int .i64 1)]).bind fun r5 => if (isHand r5 && (false || objsOk fo41 (handObjs r5)) && retOk Tryz.prog 6 [29] (handRet r5)) = true then
 if (hCell 0 2 r5).toBool = true then
 (D 182 [.hp [.iptr (.ptr 67 0 :: [.lst 4 ((hCell 0 0 r5).len) ((hCell 0 0 r5).at), .sc (.int .i64 ((hCell 0 1 r5).toInt)), .sc (.bool ((hCell 0 2 r5).toBool))])], .ptr 0 0]).bind fun r6 => if (isHand r6 && (false || objsOk fo182 (handObjs r6)) && retOk Tryz.prog 6 [29] (handRet r6)) = true then
 some (.tup [.hp [.iptr (.ptr 67 0 :: [.lst 4 ((hCell 0 0 r6).len) ((hCell 0 0 r6).at), .sc (.int .i64 ((hCell 0 1 r6).toInt)), .sc (.bool ((hCell 0 2 r6).toBool))])], rbE (handRet r6)])
 else none
 else
 (D 133 [.hp [.iptr (.ptr 67 0 :: [.lst 4 ((hCell 0 0 r5).len) ((hCell 0 0 r5).at), .sc (.int .i64 ((hCell 0 1 r5).toInt)), .sc (.bool ((hCell 0 2 r5).toBool))])], .ptr 0 0, .sc (.string (⟨#[41]⟩ : ByteArray))]).bind fun r7 => if (isHand r7 && (false || objsOk fo133 (handObjs r7)) && retOk Tryz.prog 6 [4] (handRet r7)) = true then
 if (!((handRet r7).toBool)) = true then
 (D 182 [.hp [.iptr (.ptr 67 0 :: [.lst 4 ((hCell 0 0 r7).len) ((hCell 0 0 r7).at), .sc (.int .i64 ((hCell 0 1 r7).toInt)), .sc (.bool ((hCell 0 2 r7).toBool))])], .ptr 0 0]).bind fun r8 => if (isHand r8 && (false || objsOk fo182 (handObjs r8)) && retOk Tryz.prog 6 [29] (handRet r8)) = true then
 some (.tup [.hp [.iptr (.ptr 67 0 :: [.lst 4 ((hCell 0 0 r8).len) ((hCell 0 0 r8).at), .sc (.int .i64 ((hCell 0 1 r8).toInt)), .sc (.bool ((hCell 0 2 r8).toBool))])], rbE (handRet r8)])
 else none
 else
 some (.tup [.hp [.iptr (.ptr 67 0 :: [.lst 4 ((hCell 0 0 r7).len) ((hCell 0 0 r7).at), .sc (.int .i64 ((hCell 0 1 r7).toInt)), .sc (.bool ((hCell 0 2 r7).toBool))])], rbE (handRet r5)])
 else none
 else none
 else
 (D 182 [.hp [.iptr (.ptr 67 0 :: [.lst 4 ((hCell 0 0 r4).len) ((hCell 0 0 r4).at), .sc (.int .i64 ((hCell 0 1 r4).toInt)), .sc (.bool ((hCell 0 2 r4).toBool))])], .ptr 0 0]).bind fun r9 => if (isHand r9 && (false || objsOk fo182 (handObjs r9)) && retOk Tryz.prog 6 [29] (handRet r9)) = true then
 some (.tup [.hp [.iptr (.ptr 67 0 :: [.lst 4 ((hCell 0 0 r9).len) ((hCell 0 0 r9).at), .sc (.int .i64 ((hCell 0 1 r9).toInt)), .sc (.bool ((hCell 0 2 r9).toBool))])], rbE (handRet r9)])
 else none
 else none
 else none
 else none :=
 (denI_eq k _ _).trans (by kernel_rfl)
-- (*oculus/parse.parser).word
theorem f181h_eq (k : Nat) (t : ByteArray) (ln : Nat) (lf : Nat → PV) (at_ : Int) (wrong : Bool) : D 181 [.hp [.iptr (.ptr 67 0 :: [.lst 4 ln lf, .sc (.int .i64 at_), .sc (.bool wrong)])], .ptr 0 0, .sc (.string t)] =
 (D 133 [.hp [.iptr (.ptr 67 0 :: [.lst 4 ln lf, .sc (.int .i64 at_), .sc (.bool wrong)])], .ptr 0 0, .sc (.string (⟨#[40]⟩ : ByteArray))]).bind fun r1 => if (isHand r1 && (false || objsOk fo133 (handObjs r1)) && retOk Tryz.prog 6 [4] (handRet r1)) = true then
 if (handRet r1).toBool = true then
 (D 207 [.hp [.iptr (.ptr 67 0 :: [.lst 4 ((hCell 0 0 r1).len) ((hCell 0 0 r1).at), .sc (.int .i64 ((hCell 0 1 r1).toInt)), .sc (.bool ((hCell 0 2 r1).toBool))])], .ptr 0 0, .sc (.string t)]).bind fun r2 => if (isHand r2 && (false || objsOk fo207 (handObjs r2)) && retOk Tryz.prog 6 [29] (handRet r2)) = true then
 some (.tup [.hp [.iptr (.ptr 67 0 :: [.lst 4 ((hCell 0 0 r2).len) ((hCell 0 0 r2).at), .sc (.int .i64 ((hCell 0 1 r2).toInt)), .sc (.bool ((hCell 0 2 r2).toBool))])], rbE (handRet r2)])
 else none
 else
 Option.bind (α := PV) (
 if (t.toList == (⟨#[84, 82, 85, 69]⟩ : ByteArray).toList) = true then
 some (.sc (.bool true))
 else
 some (.sc (.bool (t.toList == (⟨#[70, 65, 76, 83, 69]⟩ : ByteArray).toList)))) fun r3 =>
 if r3.toBool = true then
 if (t.toList == (⟨#[84, 82, 85, 69]⟩ : ByteArray).toList) = true then
 some (.tup [.hp [.iptr (.ptr 67 0 :: [.lst 4 ((hCell 0 0 r1).len) ((hCell 0 0 r1).at), .sc (.int .i64 ((hCell 0 1 r1).toInt)), .sc (.bool ((hCell 0 2 r1).toBool))])], .agg [.sc (.int .i64 1), .sc (.int .i64 0), .sc (.int .i64 3), .sc (.int .i64 1), .sc (.string (⟨#[]⟩ : ByteArray)), .sc (.int .i64 0), .sc (.int .i64 0), .sc (.bool false), .sc (.bool false), .sc (.int .i64 0), .sc (.int .i64 0), .sc (.bool false), .sc (.bool false), .nils]])
 else
 some (.tup [.hp [.iptr (.ptr 67 0 :: [.lst 4 ((hCell 0 0 r1).len) ((hCell 0 0 r1).at), .sc (.int .i64 ((hCell 0 1 r1).toInt)), .sc (.bool ((hCell 0 2 r1).toBool))])], .agg [.sc (.int .i64 1), .sc (.int .i64 0), .sc (.int .i64 3), .sc (.int .i64 0), .sc (.string (⟨#[]⟩ : ByteArray)), .sc (.int .i64 0), .sc (.int .i64 0), .sc (.bool false), .sc (.bool false), .sc (.int .i64 0), .sc (.int .i64 0), .sc (.bool false), .sc (.bool false), .nils]])
 else
 (D 14 [.sc (.string t)]).bind fun r4 => if hasSh (.tup [(.agg [(.int .i64), (.int .i64), .bool, .bool]), .bool]) r4 = true then
 if (!((cel 1 r4.parts).toBool)) = true then
 (D 182 [.hp [.iptr (.ptr 67 0 :: [.lst 4 ((hCell 0 0 r1).len) ((hCell 0 0 r1).at), .sc (.int .i64 ((hCell 0 1 r1).toInt)), .sc (.bool ((hCell 0 2 r1).toBool))])], .ptr 0 0]).bind fun r5 => if (isHand r5 && (false || objsOk fo182 (handObjs r5)) && retOk Tryz.prog 6 [29] (handRet r5)) = true then
 some (.tup [.hp [.iptr (.ptr 67 0 :: [.lst 4 ((hCell 0 0 r5).len) ((hCell 0 0 r5).at), .sc (.int .i64 ((hCell 0 1 r5).toInt)), .sc (.bool ((hCell 0 2 r5).toBool))])], rbE (handRet r5)])
 else none
 else
 some (.tup [.hp [.iptr (.ptr 67 0 :: [.lst 4 ((hCell 0 0 r1).len) ((hCell 0 0 r1).at), .sc (.int .i64 ((hCell 0 1 r1).toInt)), .sc (.bool ((hCell 0 2 r1).toBool))])], .agg [.sc (.int .i64 3), .sc (.int .i64 0), .sc (.int .i64 0), .sc (.int .i64 0), .sc (.string (⟨#[]⟩ : ByteArray)), .sc (.int .i64 ((cel 0 (cel 0 r4.parts).cells).toInt)), .sc (.int .i64 ((cel 1 (cel 0 r4.parts).cells).toInt)), .sc (.bool ((cel 2 (cel 0 r4.parts).cells).toBool)), .sc (.bool ((cel 3 (cel 0 r4.parts).cells).toBool)), .sc (.int .i64 0), .sc (.int .i64 0), .sc (.bool false), .sc (.bool false), .nils]])
 else none
 else none :=
 (denI_eq k _ _).trans (by kernel_rfl)
-- oculus/parse.Ref
noncomputable def f14.l0a (k : Nat) (t : ByteArray) (k_ c0 c0_1 : Int) (c0_2 c0_3 : Bool) (r r_1 : Int) (r_2 r_3 : Bool) : Option PV := loopAt Tryz.prog cf ext hint k 14 [1, 1, 1, 1, 0, 0] ⟨([.sc (.string t), .top, .ptr 0 0, .top, .ptr 1 0, .sc (.int .i64 k_)] ++ tops 63 ([])), [.cells 26 [.sc (.int .i64 c0), .sc (.int .i64 c0_1), .sc (.bool c0_2), .sc (.bool c0_3)], .cells 26 [.sc (.int .i64 r), .sc (.int .i64 r_1), .sc (.bool r_2), .sc (.bool r_3)]], none⟩
theorem f14_eq (k : Nat) (t : ByteArray) : D 14 [.sc (.string t)] =
 (D 47 [.sc (.string t), .sc (.string (⟨#[36]⟩ : ByteArray))]).bind fun r1 => if hasSh (.tup [.str, .bool]) r1 = true then
 f14.l0a k ((cel 0 r1.parts).toStr) 0 0 0 false false 0 0 false ((cel 1 r1.parts).toBool)
 else none :=
 (denI_eq k _ _).trans (by kernel_rfl)
theorem f14.l0a_eq (k : Nat) (t : ByteArray) (k_ c0 c0_1 : Int) (c0_2 c0_3 : Bool) (r r_1 : Int) (r_2 r_3 : Bool) : f14.l0a k t k_ c0 c0_1 c0_2 c0_3 r r_1 r_2 r_3 =
 Option.bind (α := PV) (
 if decide (k_ < (t.size : Int)) = true then
 Option.bind (α := PV) (
 Option.bind (α := PV) (
 if 0 ≤ k_ then
 if k_ < (t.size : Int) then
 some (.sc (.bool (decide ((bt t k_) ≥ 65))))
 else none
 else none) fun r2 =>
 some (.sc (.bool r2.toBool))) fun r3 =>
 some (.sc (.bool r3.toBool))
 else
 some (.sc (.bool false))) fun r4 =>
 Option.bind (α := PV) (
 if r4.toBool = true then
 Option.bind (α := PV) (
 Option.bind (α := PV) (
 if 0 ≤ k_ then
 if k_ < (t.size : Int) then
 some (.sc (.bool (decide ((bt t k_) ≤ 90))))
 else none
 else none) fun r5 =>
 some (.sc (.bool r5.toBool))) fun r6 =>
 some (.sc (.bool r6.toBool))
 else
 some (.sc (.bool false))) fun r7 =>
 if r7.toBool = true then
 f14.l0a k t (IntKind.i64.wrap (k_ + 1)) c0 c0_1 c0_2 c0_3 r r_1 r_2 r_3
 else
 if 0 ≤ (t.size : Int) then
 if (t.size : Int) ≤ (t.size : Int) then
 if 0 ≤ k_ then
 if k_ ≤ (t.size : Int) then
 (D 47 [.sc (.string (t.extract k_.toNat (t.size : Int).toNat)), .sc (.string (⟨#[36]⟩ : ByteArray))]).bind fun r8 => if hasSh (.tup [.str, .bool]) r8 = true then
 if 0 ≤ k_ then
 if k_ ≤ (t.size : Int) then
 if 0 ≤ k_ then
 (D 48 [.sc (.string (t.extract 0 k_.toNat))]).bind fun r9 => if hasSh (.tup [(.int .i64), .bool]) r9 = true then
 (D 49 [.sc (.string ((cel 0 r8.parts).toStr))]).bind fun r10 => if hasSh (.tup [(.int .i64), .bool]) r10 = true then
 Option.bind (α := PV) (
 if (!((cel 1 r9.parts).toBool)) = true then
 some (.sc (.bool true))
 else
 some (.sc (.bool (!((cel 1 r10.parts).toBool))))) fun r11 =>
 if r11.toBool = true then
 some (.tup [.agg [.sc (.int .i64 0), .sc (.int .i64 0), .sc (.bool false), .sc (.bool false)], .sc (.bool false)])
 else
 some (.tup [.agg [.sc (.int .i64 ((cel 0 r10.parts).toInt)), .sc (.int .i64 ((cel 0 r9.parts).toInt)), .sc (.bool ((cel 1 r8.parts).toBool)), .sc (.bool r_3)], .sc (.bool true)])
 else none
 else none
 else none
 else none
 else none
 else none
 else none
 else none
 else none
 else none :=
 (loopAt_eq _ _ _ _).trans (by kernel_rfl)
end ET
end Go.Den
