import Derived.Test.YtkhbkbkambflbaaGreatDoorETh
import Derived.KernelRfl
set_option maxRecDepth 100000
set_option linter.unusedVariables false
namespace Go.Den
open Go Go.Proofs
namespace ET
-- oculus/canon.put
noncomputable def f52h.l0a (k : Nat) (t96n : Nat) (t96f : Nat → PV) (t97 t98 : Int) (xs1 : List PV) : Option PV := loopAt Tryz.prog cf ext hint k 52 [1, 1, 0, 1, 1, 1, 1, 1, 1, 1, 1, 1, 1, 1, 1, 1, 0, 1, 0, 1, 0] ⟨([.ptr 0 0] ++ tops 95 ([.lst 14 t96n t96f, .sc (.int .i64 t97), .sc (.int .i64 t98)] ++ tops 14 ([]))), [.cells 90 [.selfp 0, .buf 1 0], .buf 5 0 xs1], (some 2)⟩
noncomputable def f52h.j1a (k : Nat) (t96n : Nat) (t96f : Nat → PV) (t97 t98 : Int) (xs1 : List PV) (x_ x__1 x__2 x__3 : Int) (x__4 : ByteArray) (x__5 x__6 : Int) (x__7 x__8 : Bool) (x__9 x__10 : Int) (x__11 x__12 : Bool) (xn : Nat) (xf : Nat → PV) : Option PV := gateK k (placeAt Tryz.prog cf ext hint k 52 [1, 1, 0, 1, 1, 1, 1, 1, 1, 1, 1, 1, 1, 1, 1, 1, 0, 1, 0, 1, 0, 0, 1, 1, 0, 0, 1, 1]) ⟨([.ptr 0 0] ++ tops 6 ([.ptr 2 0] ++ tops 88 ([.lst 14 t96n t96f, .sc (.int .i64 t97), .sc (.int .i64 t98)] ++ tops 14 ([])))), [.cells 90 [.selfp 0, .buf 1 0], .buf 5 0 xs1, .cells 29 [.sc (.int .i64 x_), .sc (.int .i64 x__1), .sc (.int .i64 x__2), .sc (.int .i64 x__3), .sc (.string x__4), .sc (.int .i64 x__5), .sc (.int .i64 x__6), .sc (.bool x__7), .sc (.bool x__8), .sc (.int .i64 x__9), .sc (.int .i64 x__10), .sc (.bool x__11), .sc (.bool x__12), .lst 14 xn xf]], (some 2)⟩
theorem f52h_eq (k : Nat) (n_ n__1 n__2 n__3 : Int) (n__4 : ByteArray) (n__5 n__6 : Int) (n__7 n__8 : Bool) (n__9 n__10 : Int) (n__11 n__12 : Bool) (nn : Nat) (nf : Nat → PV) (buf : List PV) : D 52 [.hp [.iptr (.ptr 90 0 :: [.selfp 0, .buf 1 0]), .tup (.ptr 5 0 :: buf)], .ptr 0 0, .agg [.sc (.int .i64 n_), .sc (.int .i64 n__1), .sc (.int .i64 n__2), .sc (.int .i64 n__3), .sc (.string n__4), .sc (.int .i64 n__5), .sc (.int .i64 n__6), .sc (.bool n__7), .sc (.bool n__8), .sc (.int .i64 n__9), .sc (.int .i64 n__10), .sc (.bool n__11), .sc (.bool n__12), .lst 14 nn nf]] =
 if (n_ == 1) = true then
 if (n__2 == 1) = true then
 (D 99 [.sc (.int .i64 n__3)]).bind fun r1 => if hasSh .str r1 = true then
 (D 98 [.hp [.iptr (.ptr 90 0 :: [.selfp 0, .buf 1 0]), .tup (.ptr 5 0 :: buf)], .ptr 0 0, .sc (.string r1.toStr)]).bind fun r2 => if (isHand r2 && (false || objsOk fo98 (handObjs r2)) && retOk Tryz.prog 6 [3, 137] (handRet r2)) = true then
 some (.tup [.hp [.iptr (.ptr 90 0 :: [.selfp 0, .buf 1 0]), .tup (.ptr 5 0 :: (hBuf 1 r2))], .tup []])
 else none
 else none
 else
 (D 100 [.agg [.sc (.int .i64 n__2), .sc (.int .i64 n__3), .sc (.string n__4)]]).bind fun r3 => if hasSh .str r3 = true then
 (D 98 [.hp [.iptr (.ptr 90 0 :: [.selfp 0, .buf 1 0]), .tup (.ptr 5 0 :: buf)], .ptr 0 0, .sc (.string r3.toStr)]).bind fun r4 => if (isHand r4 && (false || objsOk fo98 (handObjs r4)) && retOk Tryz.prog 6 [3, 137] (handRet r4)) = true then
 some (.tup [.hp [.iptr (.ptr 90 0 :: [.selfp 0, .buf 1 0]), .tup (.ptr 5 0 :: (hBuf 1 r4))], .tup []])
 else none
 else none
 else
 if (n_ == 2) = true then
 (D 101 [.sc (.int .i64 3)]).bind fun r5 => if hasSh .str r5 = true then
 (D 98 [.hp [.iptr (.ptr 90 0 :: [.selfp 0, .buf 1 0]), .tup (.ptr 5 0 :: buf)], .ptr 0 0, .sc (.string r5.toStr)]).bind fun r6 => if (isHand r6 && (false || objsOk fo98 (handObjs r6)) && retOk Tryz.prog 6 [3, 137] (handRet r6)) = true then
 some (.tup [.hp [.iptr (.ptr 90 0 :: [.selfp 0, .buf 1 0]), .tup (.ptr 5 0 :: (hBuf 1 r6))], .tup []])
 else none
 else none
 else
 if (n_ == 3) = true then
 (D 24 [.agg [.sc (.int .i64 n__5), .sc (.int .i64 n__6), .sc (.bool n__7), .sc (.bool n__8)]]).bind fun r7 => if hasSh .str r7 = true then
 (D 98 [.hp [.iptr (.ptr 90 0 :: [.selfp 0, .buf 1 0]), .tup (.ptr 5 0 :: buf)], .ptr 0 0, .sc (.string r7.toStr)]).bind fun r8 => if (isHand r8 && (false || objsOk fo98 (handObjs r8)) && retOk Tryz.prog 6 [3, 137] (handRet r8)) = true then
 some (.tup [.hp [.iptr (.ptr 90 0 :: [.selfp 0, .buf 1 0]), .tup (.ptr 5 0 :: (hBuf 1 r8))], .tup []])
 else none
 else none
 else
 if (n_ == 4) = true then
 (D 24 [.agg [.sc (.int .i64 n__5), .sc (.int .i64 n__6), .sc (.bool n__7), .sc (.bool n__8)]]).bind fun r9 => if hasSh .str r9 = true then
 if r9.toStr.size + 1 ≤ 9223372036854775807 then
 (D 24 [.agg [.sc (.int .i64 n__9), .sc (.int .i64 n__10), .sc (.bool n__11), .sc (.bool n__12)]]).bind fun r10 => if hasSh .str r10 = true then
 if (r9.toStr ++ (⟨#[58]⟩ : ByteArray)).size + r10.toStr.size ≤ 9223372036854775807 then
 (D 98 [.hp [.iptr (.ptr 90 0 :: [.selfp 0, .buf 1 0]), .tup (.ptr 5 0 :: buf)], .ptr 0 0, .sc (.string ((r9.toStr ++ (⟨#[58]⟩ : ByteArray)) ++ r10.toStr))]).bind fun r11 => if (isHand r11 && (false || objsOk fo98 (handObjs r11)) && retOk Tryz.prog 6 [3, 137] (handRet r11)) = true then
 some (.tup [.hp [.iptr (.ptr 90 0 :: [.selfp 0, .buf 1 0]), .tup (.ptr 5 0 :: (hBuf 1 r11))], .tup []])
 else none
 else none
 else none
 else none
 else none
 else
 if (n_ == 5) = true then
 (D 102 [.hp [.iptr (.ptr 90 0 :: [.selfp 0, .buf 1 0]), .tup (.ptr 5 0 :: buf)], .ptr 0 0, .sc (.int .u8 45)]).bind fun r12 => if (isHand r12 && (false || objsOk fo102 (handObjs r12)) && retOk Tryz.prog 6 [137] (handRet r12)) = true then
 if 0 < (nn : Int) then
 if hasSh (.agg [(.int .i64), (.int .i64), (.int .i64), (.int .i64), .str, (.int .i64), (.int .i64), .bool, .bool, (.int .i64), (.int .i64), .bool, .bool, (.lst 14)]) (nf 0) = true then
 (D 103 [.hp [.iptr (.ptr 90 0 :: [.selfp 0, .buf 1 0]), .tup (.ptr 5 0 :: (hBuf 1 r12))], .ptr 0 0, rbE (nf 0), .sc (.int .i64 9)]).bind fun r13 => if (isHand r13 && (false || objsOk fo103 (handObjs r13)) && retOk Tryz.prog 6 [] (handRet r13)) = true then
 some (.tup [.hp [.iptr (.ptr 90 0 :: [.selfp 0, .buf 1 0]), .tup (.ptr 5 0 :: (hBuf 1 r13))], .tup []])
 else none
 else none
 else none
 else none
 else
 if (n_ == 6) = true then
 (D 104 [.sc (.int .i64 n__1)]).bind fun r14 => if hasSh (.tup [.str, (.int .i64)]) r14 = true then
 if 0 < (nn : Int) then
 if hasSh (.agg [(.int .i64), (.int .i64), (.int .i64), (.int .i64), .str, (.int .i64), (.int .i64), .bool, .bool, (.int .i64), (.int .i64), .bool, .bool, (.lst 14)]) (nf 0) = true then
 (D 103 [.hp [.iptr (.ptr 90 0 :: [.selfp 0, .buf 1 0]), .tup (.ptr 5 0 :: buf)], .ptr 0 0, rbE (nf 0), .sc (.int .i64 ((cel 1 r14.parts).toInt))]).bind fun r15 => if (isHand r15 && (false || objsOk fo103 (handObjs r15)) && retOk Tryz.prog 6 [] (handRet r15)) = true then
 (D 98 [.hp [.iptr (.ptr 90 0 :: [.selfp 0, .buf 1 0]), .tup (.ptr 5 0 :: (hBuf 1 r15))], .ptr 0 0, .sc (.string ((cel 0 r14.parts).toStr))]).bind fun r16 => if (isHand r16 && (false || objsOk fo98 (handObjs r16)) && retOk Tryz.prog 6 [3, 137] (handRet r16)) = true then
 if 1 < (nn : Int) then
 if hasSh (.agg [(.int .i64), (.int .i64), (.int .i64), (.int .i64), .str, (.int .i64), (.int .i64), .bool, .bool, (.int .i64), (.int .i64), .bool, .bool, (.lst 14)]) (nf 1) = true then
 (D 103 [.hp [.iptr (.ptr 90 0 :: [.selfp 0, .buf 1 0]), .tup (.ptr 5 0 :: (hBuf 1 r16))], .ptr 0 0, rbE (nf 1), .sc (.int .i64 (IntKind.i64.wrap (((cel 1 r14.parts).toInt) + 1)))]).bind fun r17 => if (isHand r17 && (false || objsOk fo103 (handObjs r17)) && retOk Tryz.prog 6 [] (handRet r17)) = true then
 some (.tup [.hp [.iptr (.ptr 90 0 :: [.selfp 0, .buf 1 0]), .tup (.ptr 5 0 :: (hBuf 1 r17))], .tup []])
 else none
 else none
 else none
 else none
 else none
 else none
 else none
 else none
 else
 if (n_ == 7) = true then
 (D 105 [.sc (.int .i64 n__1)]).bind fun r18 => if hasSh .str r18 = true then
 if r18.toStr.size + 1 ≤ 9223372036854775807 then
 (D 98 [.hp [.iptr (.ptr 90 0 :: [.selfp 0, .buf 1 0]), .tup (.ptr 5 0 :: buf)], .ptr 0 0, .sc (.string (r18.toStr ++ (⟨#[40]⟩ : ByteArray)))]).bind fun r19 => if (isHand r19 && (false || objsOk fo98 (handObjs r19)) && retOk Tryz.prog 6 [3, 137] (handRet r19)) = true then
 f52h.l0a k nn nf (nn : Int) 0 (hBuf 1 r19)
 else none
 else none
 else none
 else
 some (.tup [.hp [.iptr (.ptr 90 0 :: [.selfp 0, .buf 1 0]), .tup (.ptr 5 0 :: buf)], .tup []]) :=
 (denI_eq k _ _).trans (by kernel_rfl)
theorem f52h.l0a_eq (k : Nat) (t96n : Nat) (t96f : Nat → PV) (t97 t98 : Int) (xs1 : List PV) : f52h.l0a k t96n t96f t97 t98 xs1 =
 if decide (t98 < t97) = true then
 if 0 ≤ t98 then
 if t98 < (t96n : Int) then
 if hasSh (.agg [(.int .i64), (.int .i64), (.int .i64), (.int .i64), .str, (.int .i64), (.int .i64), .bool, .bool, (.int .i64), (.int .i64), .bool, .bool, (.lst 14)]) (t96f t98.toNat) = true then
 if decide (t98 > 0) = true then
 (D 102 [.hp [.iptr (.ptr 90 0 :: [.selfp 0, .buf 1 0]), .tup (.ptr 5 0 :: xs1)], .ptr 0 0, .sc (.int .u8 44)]).bind fun r20 => if (isHand r20 && (false || objsOk fo102 (handObjs r20)) && retOk Tryz.prog 6 [137] (handRet r20)) = true then
 f52h.j1a k t96n t96f t97 t98 (hBuf 1 r20) ((cel 0 (t96f t98.toNat).cells).toInt) ((cel 1 (t96f t98.toNat).cells).toInt) ((cel 2 (t96f t98.toNat).cells).toInt) ((cel 3 (t96f t98.toNat).cells).toInt) ((cel 4 (t96f t98.toNat).cells).toStr) ((cel 5 (t96f t98.toNat).cells).toInt) ((cel 6 (t96f t98.toNat).cells).toInt) ((cel 7 (t96f t98.toNat).cells).toBool) ((cel 8 (t96f t98.toNat).cells).toBool) ((cel 9 (t96f t98.toNat).cells).toInt) ((cel 10 (t96f t98.toNat).cells).toInt) ((cel 11 (t96f t98.toNat).cells).toBool) ((cel 12 (t96f t98.toNat).cells).toBool) ((cel 13 (t96f t98.toNat).cells).len) ((cel 13 (t96f t98.toNat).cells).at)
 else none
 else
 f52h.j1a k t96n t96f t97 t98 xs1 ((cel 0 (t96f t98.toNat).cells).toInt) ((cel 1 (t96f t98.toNat).cells).toInt) ((cel 2 (t96f t98.toNat).cells).toInt) ((cel 3 (t96f t98.toNat).cells).toInt) ((cel 4 (t96f t98.toNat).cells).toStr) ((cel 5 (t96f t98.toNat).cells).toInt) ((cel 6 (t96f t98.toNat).cells).toInt) ((cel 7 (t96f t98.toNat).cells).toBool) ((cel 8 (t96f t98.toNat).cells).toBool) ((cel 9 (t96f t98.toNat).cells).toInt) ((cel 10 (t96f t98.toNat).cells).toInt) ((cel 11 (t96f t98.toNat).cells).toBool) ((cel 12 (t96f t98.toNat).cells).toBool) ((cel 13 (t96f t98.toNat).cells).len) ((cel 13 (t96f t98.toNat).cells).at)
 else none
 else none
 else none
 else
 (D 102 [.hp [.iptr (.ptr 90 0 :: [.selfp 0, .buf 1 0]), .tup (.ptr 5 0 :: xs1)], .ptr 0 0, .sc (.int .u8 41)]).bind fun r21 => if (isHand r21 && (false || objsOk fo102 (handObjs r21)) && retOk Tryz.prog 6 [137] (handRet r21)) = true then
 some (.tup [.hp [.iptr (.ptr 90 0 :: [.selfp 0, .buf 1 0]), .tup (.ptr 5 0 :: (hBuf 1 r21))], .tup []])
 else none :=
 (loopAt_eq _ _ _ _).trans (by kernel_rfl)
theorem f52h.j1a_eq (k : Nat) (t96n : Nat) (t96f : Nat → PV) (t97 t98 : Int) (xs1 : List PV) (x_ x__1 x__2 x__3 : Int) (x__4 : ByteArray) (x__5 x__6 : Int) (x__7 x__8 : Bool) (x__9 x__10 : Int) (x__11 x__12 : Bool) (xn : Nat) (xf : Nat → PV) : f52h.j1a k t96n t96f t97 t98 xs1 x_ x__1 x__2 x__3 x__4 x__5 x__6 x__7 x__8 x__9 x__10 x__11 x__12 xn xf =
 (D 52 [.hp [.iptr (.ptr 90 0 :: [.selfp 0, .buf 1 0]), .tup (.ptr 5 0 :: xs1)], .ptr 0 0, .agg [.sc (.int .i64 x_), .sc (.int .i64 x__1), .sc (.int .i64 x__2), .sc (.int .i64 x__3), .sc (.string x__4), .sc (.int .i64 x__5), .sc (.int .i64 x__6), .sc (.bool x__7), .sc (.bool x__8), .sc (.int .i64 x__9), .sc (.int .i64 x__10), .sc (.bool x__11), .sc (.bool x__12), .lst 14 xn xf]]).bind fun r22 => if (isHand r22 && (false || objsOk fo52 (handObjs r22)) && retOk Tryz.prog 6 [] (handRet r22)) = true then
 f52h.l0a k t96n t96f t97 (IntKind.i64.wrap (t98 + 1)) (hBuf 1 r22)
 else none :=
 (gateK_open _ _ _).trans (by kernel_rfl)
-- oculus/canon.Ref
theorem f24_eq (k : Nat) (r r_1 : Int) (r_2 r_3 : Bool) : D 24 [.agg [.sc (.int .i64 r), .sc (.int .i64 r_1), .sc (.bool r_2), .sc (.bool r_3)]] =
 (D 55 [.agg [.sc (.int .i64 r), .sc (.int .i64 r_1)]]).bind fun r1 => if hasSh .str r1 = true then
 if (r1.toStr.toList == (⟨#[]⟩ : ByteArray).toList) = true then
 some (.sc (.string (⟨#[]⟩ : ByteArray)))
 else
 (D 56 [.sc (.int .i64 r_1)]).bind fun r2 => if hasSh .str r2 = true then
 if 0 ≤ (r1.toStr.size : Int) then
 if (r1.toStr.size : Int) ≤ (r1.toStr.size : Int) then
 if 0 ≤ (r2.toStr.size : Int) then
 if (r2.toStr.size : Int) ≤ (r1.toStr.size : Int) then
 if r_3 = true then
 if 1 + r2.toStr.size ≤ 9223372036854775807 then
 if r_2 = true then
 if ((⟨#[36]⟩ : ByteArray) ++ r2.toStr).size + 1 ≤ 9223372036854775807 then
 if (((⟨#[36]⟩ : ByteArray) ++ r2.toStr) ++ (⟨#[36]⟩ : ByteArray)).size + (r1.toStr.extract (r2.toStr.size : Int).toNat (r1.toStr.size : Int).toNat).size ≤ 9223372036854775807 then
 some (.sc (.string ((((⟨#[36]⟩ : ByteArray) ++ r2.toStr) ++ (⟨#[36]⟩ : ByteArray)) ++ (r1.toStr.extract (r2.toStr.size : Int).toNat (r1.toStr.size : Int).toNat))))
 else none
 else none
 else
 if ((⟨#[36]⟩ : ByteArray) ++ r2.toStr).size + (r1.toStr.extract (r2.toStr.size : Int).toNat (r1.toStr.size : Int).toNat).size ≤ 9223372036854775807 then
 some (.sc (.string (((⟨#[36]⟩ : ByteArray) ++ r2.toStr) ++ (r1.toStr.extract (r2.toStr.size : Int).toNat (r1.toStr.size : Int).toNat))))
 else none
 else none
 else
 if r_2 = true then
 if r2.toStr.size + 1 ≤ 9223372036854775807 then
 if (r2.toStr ++ (⟨#[36]⟩ : ByteArray)).size + (r1.toStr.extract (r2.toStr.size : Int).toNat (r1.toStr.size : Int).toNat).size ≤ 9223372036854775807 then
 some (.sc (.string ((r2.toStr ++ (⟨#[36]⟩ : ByteArray)) ++ (r1.toStr.extract (r2.toStr.size : Int).toNat (r1.toStr.size : Int).toNat))))
 else none
 else none
 else
 if r2.toStr.size + (r1.toStr.extract (r2.toStr.size : Int).toNat (r1.toStr.size : Int).toNat).size ≤ 9223372036854775807 then
 some (.sc (.string (r2.toStr ++ (r1.toStr.extract (r2.toStr.size : Int).toNat (r1.toStr.size : Int).toNat))))
 else none
 else none
 else none
 else none
 else none
 else none
 else none :=
 (denI_eq k _ _).trans (by kernel_rfl)
-- oculus/addr.Name
theorem f55_eq (k : Nat) (c c_1 : Int) : D 55 [.agg [.sc (.int .i64 c), .sc (.int .i64 c_1)]] =
 (D 111 [.agg [.sc (.int .i64 c), .sc (.int .i64 c_1)]]).bind fun r1 => if hasSh .bool r1 = true then
 if (!r1.toBool) = true then
 some (.sc (.string (⟨#[]⟩ : ByteArray)))
 else
 (D 56 [.sc (.int .i64 c_1)]).bind fun r2 => if hasSh .str r2 = true then
 (D 112 [.sc (.int .i64 (IntKind.i64.wrap (c + 1)))]).bind fun r3 => if hasSh .str r3 = true then
 if r2.toStr.size + r3.toStr.size ≤ 9223372036854775807 then
 some (.sc (.string (r2.toStr ++ r3.toStr)))
 else none
 else none
 else none
 else none :=
 (denI_eq k _ _).trans (by kernel_rfl)
-- oculus/addr.Letters
theorem f56_eq (k : Nat) (col : Int) : D 56 [.sc (.int .i64 col)] =
 Option.bind (α := PV) (
 if decide (col < 0) = true then
 some (.sc (.bool true))
 else
 some (.sc (.bool (decide (col ≥ 702))))) fun r1 =>
 if r1.toBool = true then
 some (.sc (.string (⟨#[]⟩ : ByteArray)))
 else
 if decide (col < 26) = true then
 if ([.sc (.int .u8 (IntKind.u8.wrap (IntKind.i64.wrap ((65 : Int) + col))))] : List PV).all (hasSh (.int .u8)) = true then
 some (.sc (.string (bytesOf ([.sc (.int .u8 (IntKind.u8.wrap (IntKind.i64.wrap ((65 : Int) + col))))] : List PV))))
 else none
 else
 if ([.sc (.int .u8 (IntKind.u8.wrap (IntKind.i64.wrap ((IntKind.i64.wrap ((65 : Int) + (IntKind.i64.wrap (col.tdiv 26)))) - 1)))), .sc (.int .u8 (IntKind.u8.wrap (IntKind.i64.wrap ((65 : Int) + (col.tmod 26)))))] : List PV).all (hasSh (.int .u8)) = true then
 some (.sc (.string (bytesOf ([.sc (.int .u8 (IntKind.u8.wrap (IntKind.i64.wrap ((IntKind.i64.wrap ((65 : Int) + (IntKind.i64.wrap (col.tdiv 26)))) - 1)))), .sc (.int .u8 (IntKind.u8.wrap (IntKind.i64.wrap ((65 : Int) + (col.tmod 26)))))] : List PV))))
 else none :=
 (denI_eq k _ _).trans (by kernel_rfl)
-- (*strings.Builder).WriteString
theorem f98h_eq (k : Nat) (s_ : ByteArray) (buf : List PV) : D 98 [.hp [.iptr (.ptr 90 0 :: [.selfp 0, .buf 1 0]), .tup (.ptr 5 0 :: buf)], .ptr 0 0, .sc (.string s_)] =
 (D 147 [.hp [.iptr (.ptr 90 0 :: [.selfp 0, .buf 1 0]), .tup (.ptr 5 0 :: buf)], .ptr 0 0]).bind fun r1 => if (isHand r1 && (false || objsOk fo147 (handObjs r1)) && retOk Tryz.prog 6 [] (handRet r1)) = true then
 if ((hBuf 1 r1).length + (strB s_).length) * 1 ≤ 140737488355328 ∧ (hBuf 1 r1).length + (strB s_).length ≤ 140737488355328 then
 some (.tup [.hp [.iptr (.ptr 90 0 :: [.selfp 0, .buf 1 0]), .tup (.ptr 5 0 :: ((hBuf 1 r1) ++ (strB s_)))], .tup [.sc (.int .i64 (s_.size : Int)), .top]])
 else none
 else none :=
 (denI_eq k _ _).trans (by kernel_rfl)
-- oculus/digits.Text
noncomputable def f99.j0a (k : Nat) (x_ : Int) (out : ByteArray) : Option PV := gateK k (placeAt Tryz.prog cf ext hint k 99 [1, 1, 1, 1]) ⟨([.sc (.int .i64 x_), .top, .top, .sc (.string out)] ++ tops 34 ([])), [], none⟩
theorem f99_eq (k : Nat) (x_ : Int) : D 99 [.sc (.int .i64 x_)] =
 (D 148 [.sc (.int .i64 x_)]).bind fun r1 => if hasSh .bool r1 = true then
 if (!r1.toBool) = true then
 some (.sc (.string (⟨#[]⟩ : ByteArray)))
 else
 (D 150 [.sc (.int .i64 x_)]).bind fun r2 => if hasSh (.int .i64) r2 = true then
 (D 149 [.sc (.int .i64 r2.toInt), .sc (.int .i64 10)]).bind fun r3 => if hasSh .str r3 = true then
 Option.bind (α := PV) (
 if decide (x_ < 0) = true then
 some (.sc (.bool (decide (x_ > (-10000)))))
 else
 some (.sc (.bool false))) fun r4 =>
 if r4.toBool = true then
 if 1 + r3.toStr.size ≤ 9223372036854775807 then
 f99.j0a k x_ ((⟨#[45]⟩ : ByteArray) ++ r3.toStr)
 else none
 else
 f99.j0a k x_ r3.toStr
 else none
 else none
 else none :=
 (denI_eq k _ _).trans (by kernel_rfl)
theorem f99.j0a_eq (k : Nat) (x_ : Int) (out : ByteArray) : f99.j0a k x_ out =
 if ((x_.tmod 10000) == 0) = true then
 some (.sc (.string out))
 else
 (D 149 [.sc (.int .i64 (IntKind.i64.wrap ((10000 : Int) + (if IntKind.i64.wrap (0 - (x_.tmod 10000)) > x_.tmod 10000 then IntKind.i64.wrap (0 - (x_.tmod 10000)) else x_.tmod 10000)))), .sc (.int .i64 10)]).bind fun r5 => if hasSh .str r5 = true then
 if 0 ≤ (r5.toStr.size : Int) then
 if (r5.toStr.size : Int) ≤ (r5.toStr.size : Int) then
 if 1 ≤ (r5.toStr.size : Int) then
 if out.size + 1 ≤ 9223372036854775807 then
 (D 151 [.sc (.string (r5.toStr.extract 1 (r5.toStr.size : Int).toNat)), .sc (.string (⟨#[48]⟩ : ByteArray))]).bind fun r6 => if hasSh .str r6 = true then
 if (out ++ (⟨#[46]⟩ : ByteArray)).size + r6.toStr.size ≤ 9223372036854775807 then
 some (.sc (.string ((out ++ (⟨#[46]⟩ : ByteArray)) ++ r6.toStr)))
 else none
 else none
 else none
 else none
 else none
 else none
 else none :=
 (gateK_open _ _ _).trans (by kernel_rfl)
-- oculus/dec.Units
theorem f150_eq (k : Nat) (x_ : Int) : D 150 [.sc (.int .i64 x_)] =
 (D 148 [.sc (.int .i64 x_)]).bind fun r1 => if hasSh .bool r1 = true then
 if (!r1.toBool) = true then
 some (.sc (.int .i64 0))
 else
 some (.sc (.int .i64 (IntKind.i64.wrap (x_.tdiv 10000))))
 else none :=
 (denI_eq k _ _).trans (by kernel_rfl)
-- oculus/value.Show
theorem f100_eq (k : Nat) (v_ v__1 : Int) (v__2 : ByteArray) : D 100 [.agg [.sc (.int .i64 v_), .sc (.int .i64 v__1), .sc (.string v__2)]] =
 if (v_ == 0) = true then
 some (.sc (.string (⟨#[]⟩ : ByteArray)))
 else
 if (v_ == 2) = true then
 (D 152 [.sc (.string v__2)]).bind fun r1 => if hasSh .str r1 = true then
 some (.sc (.string r1.toStr))
 else none
 else
 if (v_ == 4) = true then
 (D 101 [.sc (.int .i64 v__1)]).bind fun r2 => if hasSh .str r2 = true then
 some (.sc (.string r2.toStr))
 else none
 else
 (D 153 [.agg [.sc (.int .i64 v_), .sc (.int .i64 v__1), .sc (.string v__2)]]).bind fun r3 => if hasSh (.agg [(.int .i64), (.int .i64), .str]) r3 = true then
 some (.sc (.string ((cel 2 r3.cells).toStr)))
 else none :=
 (denI_eq k _ _).trans (by kernel_rfl)
-- oculus/value.FaultText
theorem f101_eq (k : Nat) (code : Int) : D 101 [.sc (.int .i64 code)] =
 if (code == 1) = true then
 some (.sc (.string (⟨#[35, 68, 73, 86]⟩ : ByteArray)))
 else
 if (code == 2) = true then
 some (.sc (.string (⟨#[35, 86, 65, 76, 85, 69]⟩ : ByteArray)))
 else
 if (code == 3) = true then
 some (.sc (.string (⟨#[35, 82, 69, 70]⟩ : ByteArray)))
 else
 if (code == 4) = true then
 some (.sc (.string (⟨#[35, 78, 85, 77]⟩ : ByteArray)))
 else
 if (code == 5) = true then
 some (.sc (.string (⟨#[35, 78, 65]⟩ : ByteArray)))
 else
 if (code == 6) = true then
 some (.sc (.string (⟨#[35, 65, 85, 84, 72]⟩ : ByteArray)))
 else
 if (code == 7) = true then
 some (.sc (.string (⟨#[35, 67, 89, 67, 76, 69]⟩ : ByteArray)))
 else
 some (.sc (.string (⟨#[]⟩ : ByteArray))) :=
 (denI_eq k _ _).trans (by kernel_rfl)
-- oculus/value.Quote
theorem f152_eq (k : Nat) (t : ByteArray) : D 152 [.sc (.string t)] =
 (D 193 [.sc (.string t), .sc (.string (⟨#[34]⟩ : ByteArray)), .sc (.string (⟨#[34, 34]⟩ : ByteArray))]).bind fun r1 => if hasSh .str r1 = true then
 if 1 + r1.toStr.size ≤ 9223372036854775807 then
 if ((⟨#[34]⟩ : ByteArray) ++ r1.toStr).size + 1 ≤ 9223372036854775807 then
 some (.sc (.string (((⟨#[34]⟩ : ByteArray) ++ r1.toStr) ++ (⟨#[34]⟩ : ByteArray))))
 else none
 else none
 else none :=
 (denI_eq k _ _).trans (by kernel_rfl)
-- oculus/value.AsText
theorem f153_eq (k : Nat) (v_ v__1 : Int) (v__2 : ByteArray) : D 153 [.agg [.sc (.int .i64 v_), .sc (.int .i64 v__1), .sc (.string v__2)]] =
 if (v_ == 0) = true then
 (D 194 [.sc (.string (⟨#[]⟩ : ByteArray))]).bind fun r1 => if hasSh (.agg [(.int .i64), (.int .i64), .str]) r1 = true then
 some (.agg [.sc (.int .i64 ((cel 0 r1.cells).toInt)), .sc (.int .i64 ((cel 1 r1.cells).toInt)), .sc (.string ((cel 2 r1.cells).toStr))])
 else none
 else
 if (v_ == 3) = true then
 (D 195 [.agg [.sc (.int .i64 v_), .sc (.int .i64 v__1), .sc (.string v__2)]]).bind fun r2 => if hasSh .str r2 = true then
 (D 194 [.sc (.string r2.toStr)]).bind fun r3 => if hasSh (.agg [(.int .i64), (.int .i64), .str]) r3 = true then
 some (.agg [.sc (.int .i64 ((cel 0 r3.cells).toInt)), .sc (.int .i64 ((cel 1 r3.cells).toInt)), .sc (.string ((cel 2 r3.cells).toStr))])
 else none
 else none
 else
 if (v_ == 1) = true then
 (D 99 [.sc (.int .i64 v__1)]).bind fun r4 => if hasSh .str r4 = true then
 (D 194 [.sc (.string r4.toStr)]).bind fun r5 => if hasSh (.agg [(.int .i64), (.int .i64), .str]) r5 = true then
 some (.agg [.sc (.int .i64 ((cel 0 r5.cells).toInt)), .sc (.int .i64 ((cel 1 r5.cells).toInt)), .sc (.string ((cel 2 r5.cells).toStr))])
 else none
 else none
 else
 some (.agg [.sc (.int .i64 v_), .sc (.int .i64 v__1), .sc (.string v__2)]) :=
 (denI_eq k _ _).trans (by kernel_rfl)
-- oculus/value.Str
theorem f194_eq (k : Nat) (t : ByteArray) : D 194 [.sc (.string t)] =
 (D 221 [.agg [.sc (.int .i64 2), .sc (.int .i64 0), .sc (.string t)], .sc (.int .i64 2)]).bind fun r1 => if hasSh (.agg [(.int .i64), (.int .i64), .str]) r1 = true then
 some (.agg [.sc (.int .i64 ((cel 0 r1.cells).toInt)), .sc (.int .i64 ((cel 1 r1.cells).toInt)), .sc (.string ((cel 2 r1.cells).toStr))])
 else none :=
 (denI_eq k _ _).trans (by kernel_rfl)
-- oculus/value.made
theorem f221_eq (k : Nat) (v_ v__1 : Int) (v__2 : ByteArray) (code : Int) : D 221 [.agg [.sc (.int .i64 v_), .sc (.int .i64 v__1), .sc (.string v__2)], .sc (.int .i64 code)] =
 (D 135 [.agg [.sc (.int .i64 v_), .sc (.int .i64 v__1), .sc (.string v__2)]]).bind fun r1 => if hasSh .bool r1 = true then
 if (!r1.toBool) = true then
 some (.agg [.sc (.int .i64 4), .sc (.int .i64 code), .sc (.string (⟨#[]⟩ : ByteArray))])
 else
 some (.agg [.sc (.int .i64 v_), .sc (.int .i64 v__1), .sc (.string v__2)])
 else none :=
 (denI_eq k _ _).trans (by kernel_rfl)
-- oculus/value.truth
theorem f195_eq (k : Nat) (v_ v__1 : Int) (v__2 : ByteArray) : D 195 [.agg [.sc (.int .i64 v_), .sc (.int .i64 v__1), .sc (.string v__2)]] =
 if (v__1 == 1) = true then
 some (.sc (.string (⟨#[84, 82, 85, 69]⟩ : ByteArray)))
 else
 some (.sc (.string (⟨#[70, 65, 76, 83, 69]⟩ : ByteArray))) :=
 (denI_eq k _ _).trans (by kernel_rfl)
-- oculus/canon.within
theorem f103h_eq (k : Nat) (n_ n__1 n__2 n__3 : Int) (n__4 : ByteArray) (n__5 n__6 : Int) (n__7 n__8 : Bool) (n__9 n__10 : Int) (n__11 n__12 : Bool) (nn : Nat) (nf : Nat → PV) (least : Int) (buf : List PV) : D 103 [.hp [.iptr (.ptr 90 0 :: [.selfp 0, .buf 1 0]), .tup (.ptr 5 0 :: buf)], .ptr 0 0, .agg [.sc (.int .i64 n_), .sc (.int .i64 n__1), .sc (.int .i64 n__2), .sc (.int .i64 n__3), .sc (.string n__4), .sc (.int .i64 n__5), .sc (.int .i64 n__6), .sc (.bool n__7), .sc (.bool n__8), .sc (.int .i64 n__9), .sc (.int .i64 n__10), .sc (.bool n__11), .sc (.bool n__12), .lst 14 nn nf], .sc (.int .i64 least)] =
 (D 154 [.agg [.sc (.int .i64 n_), .sc (.int .i64 n__1), .sc (.int .i64 n__2), .sc (.int .i64 n__3), .sc (.string n__4), .sc (.int .i64 n__5), .sc (.int .i64 n__6), .sc (.bool n__7), .sc (.bool n__8), .sc (.int .i64 n__9), .sc (.int .i64 n__10), .sc (.bool n__11), .sc (.bool n__12), .lst 14 nn nf]]).bind fun r1 => if hasSh (.int .i64) r1 = true then
 if decide (r1.toInt ≥ least) = true then
 (D 52 [.hp [.iptr (.ptr 90 0 :: [.selfp 0, .buf 1 0]), .tup (.ptr 5 0 :: buf)], .ptr 0 0, .agg [.sc (.int .i64 n_), .sc (.int .i64 n__1), .sc (.int .i64 n__2), .sc (.int .i64 n__3), .sc (.string n__4), .sc (.int .i64 n__5), .sc (.int .i64 n__6), .sc (.bool n__7), .sc (.bool n__8), .sc (.int .i64 n__9), .sc (.int .i64 n__10), .sc (.bool n__11), .sc (.bool n__12), .lst 14 nn nf]]).bind fun r2 => if (isHand r2 && (false || objsOk fo52 (handObjs r2)) && retOk Tryz.prog 6 [] (handRet r2)) = true then
 some (.tup [.hp [.iptr (.ptr 90 0 :: [.selfp 0, .buf 1 0]), .tup (.ptr 5 0 :: (hBuf 1 r2))], .tup []])
 else none
 else
 (D 102 [.hp [.iptr (.ptr 90 0 :: [.selfp 0, .buf 1 0]), .tup (.ptr 5 0 :: buf)], .ptr 0 0, .sc (.int .u8 40)]).bind fun r3 => if (isHand r3 && (false || objsOk fo102 (handObjs r3)) && retOk Tryz.prog 6 [137] (handRet r3)) = true then
 (D 52 [.hp [.iptr (.ptr 90 0 :: [.selfp 0, .buf 1 0]), .tup (.ptr 5 0 :: (hBuf 1 r3))], .ptr 0 0, .agg [.sc (.int .i64 n_), .sc (.int .i64 n__1), .sc (.int .i64 n__2), .sc (.int .i64 n__3), .sc (.string n__4), .sc (.int .i64 n__5), .sc (.int .i64 n__6), .sc (.bool n__7), .sc (.bool n__8), .sc (.int .i64 n__9), .sc (.int .i64 n__10), .sc (.bool n__11), .sc (.bool n__12), .lst 14 nn nf]]).bind fun r4 => if (isHand r4 && (false || objsOk fo52 (handObjs r4)) && retOk Tryz.prog 6 [] (handRet r4)) = true then
 (D 102 [.hp [.iptr (.ptr 90 0 :: [.selfp 0, .buf 1 0]), .tup (.ptr 5 0 :: (hBuf 1 r4))], .ptr 0 0, .sc (.int .u8 41)]).bind fun r5 => if (isHand r5 && (false || objsOk fo102 (handObjs r5)) && retOk Tryz.prog 6 [137] (handRet r5)) = true then
 some (.tup [.hp [.iptr (.ptr 90 0 :: [.selfp 0, .buf 1 0]), .tup (.ptr 5 0 :: (hBuf 1 r5))], .tup []])
 else none
 else none
 else none
 else none :=
 (denI_eq k _ _).trans (by kernel_rfl)
-- oculus/canon.binds
theorem f154_eq (k : Nat) (n_ n__1 n__2 n__3 : Int) (n__4 : ByteArray) (n__5 n__6 : Int) (n__7 n__8 : Bool) (n__9 n__10 : Int) (n__11 n__12 : Bool) (nn : Nat) (nf : Nat → PV) : D 154 [.agg [.sc (.int .i64 n_), .sc (.int .i64 n__1), .sc (.int .i64 n__2), .sc (.int .i64 n__3), .sc (.string n__4), .sc (.int .i64 n__5), .sc (.int .i64 n__6), .sc (.bool n__7), .sc (.bool n__8), .sc (.int .i64 n__9), .sc (.int .i64 n__10), .sc (.bool n__11), .sc (.bool n__12), .lst 14 nn nf]] =
 if (n_ != 6) = true then
 some (.sc (.int .i64 9))
 else
 (D 104 [.sc (.int .i64 n__1)]).bind fun r1 => if hasSh (.tup [.str, (.int .i64)]) r1 = true then
 some (.sc (.int .i64 ((cel 1 r1.parts).toInt)))
 else none :=
 (denI_eq k _ _).trans (by kernel_rfl)
-- oculus/canon.sign
theorem f104_eq (k : Nat) (op : Int) : D 104 [.sc (.int .i64 op)] =
 if (op == 1) = true then
 some (.tup [.sc (.string (⟨#[43]⟩ : ByteArray)), .sc (.int .i64 3)])
 else
 if (op == 2) = true then
 some (.tup [.sc (.string (⟨#[45]⟩ : ByteArray)), .sc (.int .i64 3)])
 else
 if (op == 3) = true then
 some (.tup [.sc (.string (⟨#[42]⟩ : ByteArray)), .sc (.int .i64 4)])
 else
 if (op == 4) = true then
 some (.tup [.sc (.string (⟨#[47]⟩ : ByteArray)), .sc (.int .i64 4)])
 else
 if (op == 5) = true then
 some (.tup [.sc (.string (⟨#[94]⟩ : ByteArray)), .sc (.int .i64 5)])
 else
 if (op == 6) = true then
 some (.tup [.sc (.string (⟨#[38]⟩ : ByteArray)), .sc (.int .i64 2)])
 else
 if (op == 7) = true then
 some (.tup [.sc (.string (⟨#[61]⟩ : ByteArray)), .sc (.int .i64 1)])
 else
 if (op == 8) = true then
 some (.tup [.sc (.string (⟨#[60, 62]⟩ : ByteArray)), .sc (.int .i64 1)])
 else
 if (op == 9) = true then
 some (.tup [.sc (.string (⟨#[60]⟩ : ByteArray)), .sc (.int .i64 1)])
 else
 if (op == 10) = true then
 some (.tup [.sc (.string (⟨#[60, 61]⟩ : ByteArray)), .sc (.int .i64 1)])
 else
 if (op == 11) = true then
 some (.tup [.sc (.string (⟨#[62]⟩ : ByteArray)), .sc (.int .i64 1)])
 else
 some (.tup [.sc (.string (⟨#[62, 61]⟩ : ByteArray)), .sc (.int .i64 1)]) :=
 (denI_eq k _ _).trans (by kernel_rfl)
-- oculus/fname.Name
theorem f105_eq (k : Nat) (fn : Int) : D 105 [.sc (.int .i64 fn)] =
 (D 155 [.sc (.int .i64 fn)]).bind fun r1 => if hasSh (.tup [.str, .str]) r1 = true then
 some (.sc (.string ((cel 0 r1.parts).toStr)))
 else none :=
 (denI_eq k _ _).trans (by kernel_rfl)
-- oculus/oculusref24.Text
theorem f23_eq (k : Nat) (n_ n__1 n__2 n__3 : Int) (n__4 : ByteArray) (n__5 n__6 : Int) (n__7 n__8 : Bool) (n__9 n__10 : Int) (n__11 n__12 : Bool) (nn : Nat) (nf : Nat → PV) : D 23 [.agg [.sc (.int .i64 n_), .sc (.int .i64 n__1), .sc (.int .i64 n__2), .sc (.int .i64 n__3), .sc (.string n__4), .sc (.int .i64 n__5), .sc (.int .i64 n__6), .sc (.bool n__7), .sc (.bool n__8), .sc (.int .i64 n__9), .sc (.int .i64 n__10), .sc (.bool n__11), .sc (.bool n__12), .lst 14 nn nf]] =
 (D 26 [.agg [.sc (.int .i64 n_), .sc (.int .i64 n__1), .sc (.int .i64 n__2), .sc (.int .i64 n__3), .sc (.string n__4), .sc (.int .i64 n__5), .sc (.int .i64 n__6), .sc (.bool n__7), .sc (.bool n__8), .sc (.int .i64 n__9), .sc (.int .i64 n__10), .sc (.bool n__11), .sc (.bool n__12), .lst 14 nn nf]]).bind fun r1 => if hasSh .bool r1 = true then
 if (!r1.toBool) = true then
 some (.sc (.string (⟨#[]⟩ : ByteArray)))
 else
 (D 54 [.agg [.sc (.int .i64 n_), .sc (.int .i64 n__1), .sc (.int .i64 n__2), .sc (.int .i64 n__3), .sc (.string n__4), .sc (.int .i64 n__5), .sc (.int .i64 n__6), .sc (.bool n__7), .sc (.bool n__8), .sc (.int .i64 n__9), .sc (.int .i64 n__10), .sc (.bool n__11), .sc (.bool n__12), .lst 14 nn nf]]).bind fun r2 => if hasSh .str r2 = true then
 some (.sc (.string r2.toStr))
 else none
 else none :=
 (denI_eq k _ _).trans (by kernel_rfl)
-- oculus/oculusref22.Right
noncomputable def f26.l0a (k : Nat) (ln : Nat) (lf : Nat → PV) (i : Int) : Option PV := loopAt Tryz.prog cf ext hint k 26 [1, 1, 0, 1, 0] ⟨([.top, .top, .top, .lst 14 ln lf, .sc (.int .i64 i)] ++ tops 14 ([])), [], none⟩
theorem f26_eq (k : Nat) (n_ n__1 n__2 n__3 : Int) (n__4 : ByteArray) (n__5 n__6 : Int) (n__7 n__8 : Bool) (n__9 n__10 : Int) (n__11 n__12 : Bool) (nn : Nat) (nf : Nat → PV) : D 26 [.agg [.sc (.int .i64 n_), .sc (.int .i64 n__1), .sc (.int .i64 n__2), .sc (.int .i64 n__3), .sc (.string n__4), .sc (.int .i64 n__5), .sc (.int .i64 n__6), .sc (.bool n__7), .sc (.bool n__8), .sc (.int .i64 n__9), .sc (.int .i64 n__10), .sc (.bool n__11), .sc (.bool n__12), .lst 14 nn nf]] =
 (D 51 [.agg [.sc (.int .i64 n_), .sc (.int .i64 n__1), .sc (.int .i64 n__2), .sc (.int .i64 n__3), .sc (.string n__4), .sc (.int .i64 n__5), .sc (.int .i64 n__6), .sc (.bool n__7), .sc (.bool n__8), .sc (.int .i64 n__9), .sc (.int .i64 n__10), .sc (.bool n__11), .sc (.bool n__12), .lst 14 nn nf]]).bind fun r1 => if hasSh (.lst 14) r1 = true then
 f26.l0a k r1.len r1.at 0
 else none :=
 (denI_eq k _ _).trans (by kernel_rfl)
theorem f26.l0a_eq (k : Nat) (ln : Nat) (lf : Nat → PV) (i : Int) : f26.l0a k ln lf i =
 if decide (i < (ln : Int)) = true then
 if 0 ≤ i then
 if i < (ln : Int) then
 if hasSh (.agg [(.int .i64), (.int .i64), (.int .i64), (.int .i64), .str, (.int .i64), (.int .i64), .bool, .bool, (.int .i64), (.int .i64), .bool, .bool, (.lst 14)]) (lf i.toNat) = true then
 (D 60 [rbE (lf i.toNat)]).bind fun r2 => if hasSh .bool r2 = true then
 if (!r2.toBool) = true then
 some (.sc (.bool false))
 else
 f26.l0a k ln lf (IntKind.i64.wrap (i + 1))
 else none
 else none
 else none
 else none
 else
 some (.sc (.bool true)) :=
 (loopAt_eq _ _ _ _).trans (by kernel_rfl)
end ET
end Go.Den
