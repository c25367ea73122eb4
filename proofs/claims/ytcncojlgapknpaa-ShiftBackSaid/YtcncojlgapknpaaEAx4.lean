import Derived.Test.YtcncojlgapknpaaEAh
import Derived.KernelRfl
set_option maxRecDepth 100000
set_option linter.unusedVariables false
namespace Go.Den
open Go Go.Proofs
namespace EA
-- oculus/oculuslaw25.ShiftKeeps
theorem f3_eq (k : Nat) (n_ n__1 n__2 n__3 : Int) (n__4 : ByteArray) (n__5 n__6 : Int) (n__7 n__8 : Bool) (n__9 n__10 : Int) (n__11 n__12 : Bool) (nn : Nat) (nf : Nat → PV) (by_ by__1 grid grid_1 : Int) : D 3 [.agg [.sc (.int .i64 n_), .sc (.int .i64 n__1), .sc (.int .i64 n__2), .sc (.int .i64 n__3), .sc (.string n__4), .sc (.int .i64 n__5), .sc (.int .i64 n__6), .sc (.bool n__7), .sc (.bool n__8), .sc (.int .i64 n__9), .sc (.int .i64 n__10), .sc (.bool n__11), .sc (.bool n__12), .lst 14 nn nf], .agg [.sc (.int .i64 by_), .sc (.int .i64 by__1)], .agg [.sc (.int .i64 grid), .sc (.int .i64 grid_1)]] =
  (D 5 [.agg [.sc (.int .i64 n_), .sc (.int .i64 n__1), .sc (.int .i64 n__2), .sc (.int .i64 n__3), .sc (.string n__4), .sc (.int .i64 n__5), .sc (.int .i64 n__6), .sc (.bool n__7), .sc (.bool n__8), .sc (.int .i64 n__9), .sc (.int .i64 n__10), .sc (.bool n__11), .sc (.bool n__12), .lst 14 nn nf]]).bind fun r1 => if hasSh .bool r1 = true then
  if (!r1.toBool) = true then
    (D 6 []).bind fun r2 => if hasSh .bool r2 = true then
    some (.sc (.bool r2.toBool))
    else none
  else
    (D 7 [.agg [.sc (.int .i64 n_), .sc (.int .i64 n__1), .sc (.int .i64 n__2), .sc (.int .i64 n__3), .sc (.string n__4), .sc (.int .i64 n__5), .sc (.int .i64 n__6), .sc (.bool n__7), .sc (.bool n__8), .sc (.int .i64 n__9), .sc (.int .i64 n__10), .sc (.bool n__11), .sc (.bool n__12), .lst 14 nn nf], .agg [.sc (.int .i64 by_), .sc (.int .i64 by__1)], .agg [.sc (.int .i64 grid), .sc (.int .i64 grid_1)]]).bind fun r3 => if hasSh (.agg [(.int .i64), (.int .i64), (.int .i64), (.int .i64), .str, (.int .i64), (.int .i64), .bool, .bool, (.int .i64), (.int .i64), .bool, .bool, (.lst 14)]) r3 = true then
    (D 8 [.agg [.sc (.int .i64 n_), .sc (.int .i64 n__1), .sc (.int .i64 n__2), .sc (.int .i64 n__3), .sc (.string n__4), .sc (.int .i64 n__5), .sc (.int .i64 n__6), .sc (.bool n__7), .sc (.bool n__8), .sc (.int .i64 n__9), .sc (.int .i64 n__10), .sc (.bool n__11), .sc (.bool n__12), .lst 14 nn nf]]).bind fun r4 => if hasSh .bool r4 = true then
    if (!r4.toBool) = true then
      (D 9 [.agg [.sc (.int .i64 n_), .sc (.int .i64 n__1), .sc (.int .i64 n__2), .sc (.int .i64 n__3), .sc (.string n__4), .sc (.int .i64 n__5), .sc (.int .i64 n__6), .sc (.bool n__7), .sc (.bool n__8), .sc (.int .i64 n__9), .sc (.int .i64 n__10), .sc (.bool n__11), .sc (.bool n__12), .lst 14 nn nf]]).bind fun r5 => if hasSh .bool r5 = true then
      if (!r5.toBool) = true then
        (D 10 [.agg [.sc (.int .i64 ((cel 0 r3.cells).toInt)), .sc (.int .i64 ((cel 1 r3.cells).toInt)), .sc (.int .i64 ((cel 2 r3.cells).toInt)), .sc (.int .i64 ((cel 3 r3.cells).toInt)), .sc (.string ((cel 4 r3.cells).toStr)), .sc (.int .i64 ((cel 5 r3.cells).toInt)), .sc (.int .i64 ((cel 6 r3.cells).toInt)), .sc (.bool ((cel 7 r3.cells).toBool)), .sc (.bool ((cel 8 r3.cells).toBool)), .sc (.int .i64 ((cel 9 r3.cells).toInt)), .sc (.int .i64 ((cel 10 r3.cells).toInt)), .sc (.bool ((cel 11 r3.cells).toBool)), .sc (.bool ((cel 12 r3.cells).toBool)), .lst 14 ((cel 13 r3.cells).len) ((cel 13 r3.cells).at)]]).bind fun r6 => if hasSh (.lst 14) r6 = true then
        (D 10 [.agg [.sc (.int .i64 n_), .sc (.int .i64 n__1), .sc (.int .i64 n__2), .sc (.int .i64 n__3), .sc (.string n__4), .sc (.int .i64 n__5), .sc (.int .i64 n__6), .sc (.bool n__7), .sc (.bool n__8), .sc (.int .i64 n__9), .sc (.int .i64 n__10), .sc (.bool n__11), .sc (.bool n__12), .lst 14 nn nf]]).bind fun r7 => if hasSh (.lst 14) r7 = true then
        if decide ((r6.len : Int) ≤ (r7.len : Int)) = true then
          (D 6 []).bind fun r8 => if hasSh .bool r8 = true then
          some (.sc (.bool r8.toBool))
          else none
        else
          some (.sc (.bool false))
        else none
        else none
      else
        (D 9 [.agg [.sc (.int .i64 ((cel 0 r3.cells).toInt)), .sc (.int .i64 ((cel 1 r3.cells).toInt)), .sc (.int .i64 ((cel 2 r3.cells).toInt)), .sc (.int .i64 ((cel 3 r3.cells).toInt)), .sc (.string ((cel 4 r3.cells).toStr)), .sc (.int .i64 ((cel 5 r3.cells).toInt)), .sc (.int .i64 ((cel 6 r3.cells).toInt)), .sc (.bool ((cel 7 r3.cells).toBool)), .sc (.bool ((cel 8 r3.cells).toBool)), .sc (.int .i64 ((cel 9 r3.cells).toInt)), .sc (.int .i64 ((cel 10 r3.cells).toInt)), .sc (.bool ((cel 11 r3.cells).toBool)), .sc (.bool ((cel 12 r3.cells).toBool)), .lst 14 ((cel 13 r3.cells).len) ((cel 13 r3.cells).at)]]).bind fun r9 => if hasSh .bool r9 = true then
        if r9.toBool = true then
          (D 10 [.agg [.sc (.int .i64 ((cel 0 r3.cells).toInt)), .sc (.int .i64 ((cel 1 r3.cells).toInt)), .sc (.int .i64 ((cel 2 r3.cells).toInt)), .sc (.int .i64 ((cel 3 r3.cells).toInt)), .sc (.string ((cel 4 r3.cells).toStr)), .sc (.int .i64 ((cel 5 r3.cells).toInt)), .sc (.int .i64 ((cel 6 r3.cells).toInt)), .sc (.bool ((cel 7 r3.cells).toBool)), .sc (.bool ((cel 8 r3.cells).toBool)), .sc (.int .i64 ((cel 9 r3.cells).toInt)), .sc (.int .i64 ((cel 10 r3.cells).toInt)), .sc (.bool ((cel 11 r3.cells).toBool)), .sc (.bool ((cel 12 r3.cells).toBool)), .lst 14 ((cel 13 r3.cells).len) ((cel 13 r3.cells).at)]]).bind fun r10 => if hasSh (.lst 14) r10 = true then
          (D 10 [.agg [.sc (.int .i64 n_), .sc (.int .i64 n__1), .sc (.int .i64 n__2), .sc (.int .i64 n__3), .sc (.string n__4), .sc (.int .i64 n__5), .sc (.int .i64 n__6), .sc (.bool n__7), .sc (.bool n__8), .sc (.int .i64 n__9), .sc (.int .i64 n__10), .sc (.bool n__11), .sc (.bool n__12), .lst 14 nn nf]]).bind fun r11 => if hasSh (.lst 14) r11 = true then
          if decide ((r10.len : Int) ≤ (r11.len : Int)) = true then
            (D 6 []).bind fun r12 => if hasSh .bool r12 = true then
            some (.sc (.bool r12.toBool))
            else none
          else
            some (.sc (.bool false))
          else none
          else none
        else
          some (.sc (.bool false))
        else none
      else none
    else
      (D 8 [.agg [.sc (.int .i64 ((cel 0 r3.cells).toInt)), .sc (.int .i64 ((cel 1 r3.cells).toInt)), .sc (.int .i64 ((cel 2 r3.cells).toInt)), .sc (.int .i64 ((cel 3 r3.cells).toInt)), .sc (.string ((cel 4 r3.cells).toStr)), .sc (.int .i64 ((cel 5 r3.cells).toInt)), .sc (.int .i64 ((cel 6 r3.cells).toInt)), .sc (.bool ((cel 7 r3.cells).toBool)), .sc (.bool ((cel 8 r3.cells).toBool)), .sc (.int .i64 ((cel 9 r3.cells).toInt)), .sc (.int .i64 ((cel 10 r3.cells).toInt)), .sc (.bool ((cel 11 r3.cells).toBool)), .sc (.bool ((cel 12 r3.cells).toBool)), .lst 14 ((cel 13 r3.cells).len) ((cel 13 r3.cells).at)]]).bind fun r13 => if hasSh .bool r13 = true then
      if r13.toBool = true then
        (D 9 [.agg [.sc (.int .i64 n_), .sc (.int .i64 n__1), .sc (.int .i64 n__2), .sc (.int .i64 n__3), .sc (.string n__4), .sc (.int .i64 n__5), .sc (.int .i64 n__6), .sc (.bool n__7), .sc (.bool n__8), .sc (.int .i64 n__9), .sc (.int .i64 n__10), .sc (.bool n__11), .sc (.bool n__12), .lst 14 nn nf]]).bind fun r14 => if hasSh .bool r14 = true then
        if (!r14.toBool) = true then
          (D 10 [.agg [.sc (.int .i64 ((cel 0 r3.cells).toInt)), .sc (.int .i64 ((cel 1 r3.cells).toInt)), .sc (.int .i64 ((cel 2 r3.cells).toInt)), .sc (.int .i64 ((cel 3 r3.cells).toInt)), .sc (.string ((cel 4 r3.cells).toStr)), .sc (.int .i64 ((cel 5 r3.cells).toInt)), .sc (.int .i64 ((cel 6 r3.cells).toInt)), .sc (.bool ((cel 7 r3.cells).toBool)), .sc (.bool ((cel 8 r3.cells).toBool)), .sc (.int .i64 ((cel 9 r3.cells).toInt)), .sc (.int .i64 ((cel 10 r3.cells).toInt)), .sc (.bool ((cel 11 r3.cells).toBool)), .sc (.bool ((cel 12 r3.cells).toBool)), .lst 14 ((cel 13 r3.cells).len) ((cel 13 r3.cells).at)]]).bind fun r15 => if hasSh (.lst 14) r15 = true then
          (D 10 [.agg [.sc (.int .i64 n_), .sc (.int .i64 n__1), .sc (.int .i64 n__2), .sc (.int .i64 n__3), .sc (.string n__4), .sc (.int .i64 n__5), .sc (.int .i64 n__6), .sc (.bool n__7), .sc (.bool n__8), .sc (.int .i64 n__9), .sc (.int .i64 n__10), .sc (.bool n__11), .sc (.bool n__12), .lst 14 nn nf]]).bind fun r16 => if hasSh (.lst 14) r16 = true then
          if decide ((r15.len : Int) ≤ (r16.len : Int)) = true then
            (D 6 []).bind fun r17 => if hasSh .bool r17 = true then
            some (.sc (.bool r17.toBool))
            else none
          else
            some (.sc (.bool false))
          else none
          else none
        else
          (D 9 [.agg [.sc (.int .i64 ((cel 0 r3.cells).toInt)), .sc (.int .i64 ((cel 1 r3.cells).toInt)), .sc (.int .i64 ((cel 2 r3.cells).toInt)), .sc (.int .i64 ((cel 3 r3.cells).toInt)), .sc (.string ((cel 4 r3.cells).toStr)), .sc (.int .i64 ((cel 5 r3.cells).toInt)), .sc (.int .i64 ((cel 6 r3.cells).toInt)), .sc (.bool ((cel 7 r3.cells).toBool)), .sc (.bool ((cel 8 r3.cells).toBool)), .sc (.int .i64 ((cel 9 r3.cells).toInt)), .sc (.int .i64 ((cel 10 r3.cells).toInt)), .sc (.bool ((cel 11 r3.cells).toBool)), .sc (.bool ((cel 12 r3.cells).toBool)), .lst 14 ((cel 13 r3.cells).len) ((cel 13 r3.cells).at)]]).bind fun r18 => if hasSh .bool r18 = true then
          if r18.toBool = true then
            (D 10 [.agg [.sc (.int .i64 ((cel 0 r3.cells).toInt)), .sc (.int .i64 ((cel 1 r3.cells).toInt)), .sc (.int .i64 ((cel 2 r3.cells).toInt)), .sc (.int .i64 ((cel 3 r3.cells).toInt)), .sc (.string ((cel 4 r3.cells).toStr)), .sc (.int .i64 ((cel 5 r3.cells).toInt)), .sc (.int .i64 ((cel 6 r3.cells).toInt)), .sc (.bool ((cel 7 r3.cells).toBool)), .sc (.bool ((cel 8 r3.cells).toBool)), .sc (.int .i64 ((cel 9 r3.cells).toInt)), .sc (.int .i64 ((cel 10 r3.cells).toInt)), .sc (.bool ((cel 11 r3.cells).toBool)), .sc (.bool ((cel 12 r3.cells).toBool)), .lst 14 ((cel 13 r3.cells).len) ((cel 13 r3.cells).at)]]).bind fun r19 => if hasSh (.lst 14) r19 = true then
            (D 10 [.agg [.sc (.int .i64 n_), .sc (.int .i64 n__1), .sc (.int .i64 n__2), .sc (.int .i64 n__3), .sc (.string n__4), .sc (.int .i64 n__5), .sc (.int .i64 n__6), .sc (.bool n__7), .sc (.bool n__8), .sc (.int .i64 n__9), .sc (.int .i64 n__10), .sc (.bool n__11), .sc (.bool n__12), .lst 14 nn nf]]).bind fun r20 => if hasSh (.lst 14) r20 = true then
            if decide ((r19.len : Int) ≤ (r20.len : Int)) = true then
              (D 6 []).bind fun r21 => if hasSh .bool r21 = true then
              some (.sc (.bool r21.toBool))
              else none
            else
              some (.sc (.bool false))
            else none
            else none
          else
            some (.sc (.bool false))
          else none
        else none
      else
        some (.sc (.bool false))
      else none
    else none
    else none
  else none :=
  (denI_eq k _ _).trans (by kernel_rfl)
-- oculus/oculusref22.Formula
theorem f9_eq (k : Nat) (n_ n__1 n__2 n__3 : Int) (n__4 : ByteArray) (n__5 n__6 : Int) (n__7 n__8 : Bool) (n__9 n__10 : Int) (n__11 n__12 : Bool) (nn : Nat) (nf : Nat → PV) : D 9 [.agg [.sc (.int .i64 n_), .sc (.int .i64 n__1), .sc (.int .i64 n__2), .sc (.int .i64 n__3), .sc (.string n__4), .sc (.int .i64 n__5), .sc (.int .i64 n__6), .sc (.bool n__7), .sc (.bool n__8), .sc (.int .i64 n__9), .sc (.int .i64 n__10), .sc (.bool n__11), .sc (.bool n__12), .lst 14 nn nf]] =
  Option.bind (α := PV) (
    if (n_ != 4) = true then
      Option.bind (α := PV) (
        (D 16 [.agg [.sc (.int .i64 n_), .sc (.int .i64 n__1), .sc (.int .i64 n__2), .sc (.int .i64 n__3), .sc (.string n__4), .sc (.int .i64 n__5), .sc (.int .i64 n__6), .sc (.bool n__7), .sc (.bool n__8), .sc (.int .i64 n__9), .sc (.int .i64 n__10), .sc (.bool n__11), .sc (.bool n__12), .lst 14 nn nf]]).bind fun r1 => if hasSh (.int .i64) r1 = true then
        some (.sc (.bool (decide (r1.toInt ≤ 12))))
        else none) fun r2 =>
      some (.sc (.bool r2.toBool))
    else
      some (.sc (.bool false))) fun r3 =>
  Option.bind (α := PV) (
    if r3.toBool = true then
      Option.bind (α := PV) (
        (D 8 [.agg [.sc (.int .i64 n_), .sc (.int .i64 n__1), .sc (.int .i64 n__2), .sc (.int .i64 n__3), .sc (.string n__4), .sc (.int .i64 n__5), .sc (.int .i64 n__6), .sc (.bool n__7), .sc (.bool n__8), .sc (.int .i64 n__9), .sc (.int .i64 n__10), .sc (.bool n__11), .sc (.bool n__12), .lst 14 nn nf]]).bind fun r4 => if hasSh .bool r4 = true then
        some (.sc (.bool r4.toBool))
        else none) fun r5 =>
      some (.sc (.bool r5.toBool))
    else
      some (.sc (.bool false))) fun r6 =>
  some (.sc (.bool r6.toBool)) :=
  (denI_eq k _ _).trans (by kernel_rfl)
-- oculus/oculusref22.Deep
noncomputable def f16.l0a (k : Nat) (out i n_ n__1 n__2 n__3 : Int) (n__4 : ByteArray) (n__5 n__6 : Int) (n__7 n__8 : Bool) (n__9 n__10 : Int) (n__11 n__12 : Bool) (nn : Nat) (nf : Nat → PV) : Option PV := loopAt Try.prog 6 ext hint k 16 [1, 1, 0, 1, 0] ⟨[.top, .ptr 0 0, .top, .sc (.int .i64 out), .sc (.int .i64 i), .top, .top, .top, .top, .top, .top, .top, .top, .top, .top, .top, .top, .top, .top, .top, .top, .top, .top, .top, .top], [.cells [.sc (.int .i64 n_), .sc (.int .i64 n__1), .sc (.int .i64 n__2), .sc (.int .i64 n__3), .sc (.string n__4), .sc (.int .i64 n__5), .sc (.int .i64 n__6), .sc (.bool n__7), .sc (.bool n__8), .sc (.int .i64 n__9), .sc (.int .i64 n__10), .sc (.bool n__11), .sc (.bool n__12), .lst 14 nn nf]]⟩
theorem f16_eq (k : Nat) (n_ n__1 n__2 n__3 : Int) (n__4 : ByteArray) (n__5 n__6 : Int) (n__7 n__8 : Bool) (n__9 n__10 : Int) (n__11 n__12 : Bool) (nn : Nat) (nf : Nat → PV) : D 16 [.agg [.sc (.int .i64 n_), .sc (.int .i64 n__1), .sc (.int .i64 n__2), .sc (.int .i64 n__3), .sc (.string n__4), .sc (.int .i64 n__5), .sc (.int .i64 n__6), .sc (.bool n__7), .sc (.bool n__8), .sc (.int .i64 n__9), .sc (.int .i64 n__10), .sc (.bool n__11), .sc (.bool n__12), .lst 14 nn nf]] =
  f16.l0a k 1 0 n_ n__1 n__2 n__3 n__4 n__5 n__6 n__7 n__8 n__9 n__10 n__11 n__12 nn nf :=
  (denI_eq k _ _).trans (by kernel_rfl)
theorem f16.l0a_eq (k : Nat) (out i n_ n__1 n__2 n__3 : Int) (n__4 : ByteArray) (n__5 n__6 : Int) (n__7 n__8 : Bool) (n__9 n__10 : Int) (n__11 n__12 : Bool) (nn : Nat) (nf : Nat → PV) : f16.l0a k out i n_ n__1 n__2 n__3 n__4 n__5 n__6 n__7 n__8 n__9 n__10 n__11 n__12 nn nf =
  if decide (i < (nn : Int)) = true then
    if 0 ≤ i then
      if i < (nn : Int) then
        if hasSh (.agg [(.int .i64), (.int .i64), (.int .i64), (.int .i64), .str, (.int .i64), (.int .i64), .bool, .bool, (.int .i64), (.int .i64), .bool, .bool, (.lst 14)]) (nf i.toNat) = true then
          (D 16 [.agg [.sc (.int .i64 ((cel 0 (nf i.toNat).cells).toInt)), .sc (.int .i64 ((cel 1 (nf i.toNat).cells).toInt)), .sc (.int .i64 ((cel 2 (nf i.toNat).cells).toInt)), .sc (.int .i64 ((cel 3 (nf i.toNat).cells).toInt)), .sc (.string ((cel 4 (nf i.toNat).cells).toStr)), .sc (.int .i64 ((cel 5 (nf i.toNat).cells).toInt)), .sc (.int .i64 ((cel 6 (nf i.toNat).cells).toInt)), .sc (.bool ((cel 7 (nf i.toNat).cells).toBool)), .sc (.bool ((cel 8 (nf i.toNat).cells).toBool)), .sc (.int .i64 ((cel 9 (nf i.toNat).cells).toInt)), .sc (.int .i64 ((cel 10 (nf i.toNat).cells).toInt)), .sc (.bool ((cel 11 (nf i.toNat).cells).toBool)), .sc (.bool ((cel 12 (nf i.toNat).cells).toBool)), .lst 14 ((cel 13 (nf i.toNat).cells).len) ((cel 13 (nf i.toNat).cells).at)]]).bind fun r1 => if hasSh (.int .i64) r1 = true then
          if decide ((IntKind.i64.wrap (r1.toInt + 1)) > out) = true then
            f16.l0a k (IntKind.i64.wrap (r1.toInt + 1)) (IntKind.i64.wrap (i + 1)) n_ n__1 n__2 n__3 n__4 n__5 n__6 n__7 n__8 n__9 n__10 n__11 n__12 nn nf
          else
            f16.l0a k out (IntKind.i64.wrap (i + 1)) n_ n__1 n__2 n__3 n__4 n__5 n__6 n__7 n__8 n__9 n__10 n__11 n__12 nn nf
          else none
        else none
      else none
    else none
  else
    some (.sc (.int .i64 out)) :=
  (loopAt_eq _ _ _ _).trans (by kernel_rfl)
end EA
end Go.Den
