import Derived.Test.YtbkdoeghgdbjlaaGreatDoorECh
import Derived.KernelRfl
set_option maxRecDepth 100000
set_option linter.unusedVariables false
namespace Go.Den
open Go Go.Proofs
namespace EC
-- oculus/oculuslaw45.ReplyChanges
noncomputable def f4.l0a (k : Nat) (ln : Nat) (lf : Nat → PV) (n_ : Int) (t22n : Nat) (t22f : Nat → PV) (t23 t24 : Int) : Option PV := loopAt Tryz.prog cf ext hint k 4 [1, 1, 1, 0, 1, 0] ⟨[.lst 10 ln lf, .sc (.int .i64 n_), .top, .top, .top, .nils, .top, .top, .top, .top, .top, .top, .top, .top, .top, .top, .top, .top, .top, .top, .top, .top, .lst 10 t22n t22f, .sc (.int .i64 t23), .sc (.int .i64 t24), .top, .top, .top, .top, .top, .top, .top, .top, .top, .top, .top, .top, .top, .top, .top, .top, .top, .top, .top, .top, .top, .top, .top, .top, .top, .top, .top, .top, .top, .top, .top, .top, .top, .top, .top, .top, .top, .top, .top], [], none⟩
noncomputable def f4.l0b (k : Nat) (ln : Nat) (lf : Nat → PV) (n_ : Int) (t22n : Nat) (t22f : Nat → PV) (t23 t24 : Int) (mine : List PV) : Option PV := loopAt Tryz.prog cf ext hint k 4 [1, 1, 1, 0, 1, 0] ⟨[.lst 10 ln lf, .sc (.int .i64 n_), .top, .top, .top, .buf 0 0, .top, .top, .top, .top, .top, .top, .top, .top, .top, .top, .top, .top, .top, .top, .top, .top, .lst 10 t22n t22f, .sc (.int .i64 t23), .sc (.int .i64 t24), .top, .top, .top, .top, .top, .top, .top, .top, .top, .top, .top, .top, .top, .top, .top, .top, .top, .top, .top, .top, .top, .top, .top, .top, .top, .top, .top, .top, .top, .top, .top, .top, .top, .top, .top, .top, .top, .top, .top], [.buf 39 0 mine], none⟩
theorem f4_eq (k : Nat) (ln : Nat) (lf : Nat → PV) (n_ : Int) : D 4 [.lst 10 ln lf, .sc (.int .i64 n_)] =
  Option.bind (α := PV) (
    if decide ((ln : Int) > 100) = true then
      some (.sc (.bool true))
    else
      some (.sc (.bool (decide (n_ < 0))))) fun r1 =>
  Option.bind (α := PV) (
    if r1.toBool = true then
      some (.sc (.bool true))
    else
      some (.sc (.bool (decide (n_ > 1000000000))))) fun r2 =>
  if r2.toBool = true then
    (D 21 []).bind fun r3 => if hasSh .bool r3 = true then
    some (.sc (.bool r3.toBool))
    else none
  else
    f4.l0a k ln lf n_ ln lf (ln : Int) 0 :=
  (denI_eq k _ _).trans (by kernel_rfl)
theorem f4.l0a_eq (k : Nat) (ln : Nat) (lf : Nat → PV) (n_ : Int) (t22n : Nat) (t22f : Nat → PV) (t23 t24 : Int) : f4.l0a k ln lf n_ t22n t22f t23 t24 =
  if decide (t24 < t23) = true then
    if 0 ≤ t24 then
      if t24 < (t22n : Int) then
        if hasSh (.agg [(.int .i64), (.int .i64), .bool, (.int .i64), (.int .i64), .str, .bool, (.int .i64), (.int .i64), .str]) (t22f t24.toNat) = true then
          (D 22 [frozen 7 ([.agg [.sc (.int .i64 ((cel 3 (t22f t24.toNat).cells).toInt)), .sc (.int .i64 ((cel 4 (t22f t24.toNat).cells).toInt)), .sc (.string ((cel 5 (t22f t24.toNat).cells).toStr)), .sc (.bool ((cel 6 (t22f t24.toNat).cells).toBool)), .sc (.int .i64 ((cel 7 (t22f t24.toNat).cells).toInt)), .sc (.int .i64 ((cel 8 (t22f t24.toNat).cells).toInt)), .sc (.string ((cel 9 (t22f t24.toNat).cells).toStr))]] : List PV)]).bind fun r4 => if hasSh .bool r4 = true then
          if (!r4.toBool) = true then
            (D 21 []).bind fun r5 => if hasSh .bool r5 = true then
            some (.sc (.bool r5.toBool))
            else none
          else
            if ([.agg [.sc (.int .i64 ((cel 0 (t22f t24.toNat).cells).toInt)), .sc (.int .i64 ((cel 1 (t22f t24.toNat).cells).toInt)), .sc (.bool ((cel 2 (t22f t24.toNat).cells).toBool)), .sc (.int .i64 ((cel 3 (t22f t24.toNat).cells).toInt)), .sc (.int .i64 ((cel 4 (t22f t24.toNat).cells).toInt)), .sc (.string ((cel 5 (t22f t24.toNat).cells).toStr)), .sc (.bool ((cel 6 (t22f t24.toNat).cells).toBool)), .sc (.int .i64 ((cel 7 (t22f t24.toNat).cells).toInt)), .sc (.int .i64 ((cel 8 (t22f t24.toNat).cells).toInt)), .sc (.string ((cel 9 (t22f t24.toNat).cells).toStr))]] : List PV).length * 96 ≤ 140737488355328 ∧ ([.agg [.sc (.int .i64 ((cel 0 (t22f t24.toNat).cells).toInt)), .sc (.int .i64 ((cel 1 (t22f t24.toNat).cells).toInt)), .sc (.bool ((cel 2 (t22f t24.toNat).cells).toBool)), .sc (.int .i64 ((cel 3 (t22f t24.toNat).cells).toInt)), .sc (.int .i64 ((cel 4 (t22f t24.toNat).cells).toInt)), .sc (.string ((cel 5 (t22f t24.toNat).cells).toStr)), .sc (.bool ((cel 6 (t22f t24.toNat).cells).toBool)), .sc (.int .i64 ((cel 7 (t22f t24.toNat).cells).toInt)), .sc (.int .i64 ((cel 8 (t22f t24.toNat).cells).toInt)), .sc (.string ((cel 9 (t22f t24.toNat).cells).toStr))]] : List PV).length ≤ 140737488355328 then
              f4.l0b k ln lf n_ t22n t22f t23 (IntKind.i64.wrap (t24 + 1)) ([.agg [.sc (.int .i64 ((cel 0 (t22f t24.toNat).cells).toInt)), .sc (.int .i64 ((cel 1 (t22f t24.toNat).cells).toInt)), .sc (.bool ((cel 2 (t22f t24.toNat).cells).toBool)), .sc (.int .i64 ((cel 3 (t22f t24.toNat).cells).toInt)), .sc (.int .i64 ((cel 4 (t22f t24.toNat).cells).toInt)), .sc (.string ((cel 5 (t22f t24.toNat).cells).toStr)), .sc (.bool ((cel 6 (t22f t24.toNat).cells).toBool)), .sc (.int .i64 ((cel 7 (t22f t24.toNat).cells).toInt)), .sc (.int .i64 ((cel 8 (t22f t24.toNat).cells).toInt)), .sc (.string ((cel 9 (t22f t24.toNat).cells).toStr))]] : List PV)
            else none
          else none
        else none
      else none
    else none
  else
    (D 23 [.lst 10 0 (fun _ => .top)]).bind fun r6 => if hasSh .str r6 = true then
    (D 24 [.sc (.int .i64 n_), .lst 10 0 (fun _ => .top)]).bind fun r7 => if hasSh .str r7 = true then
    (D 25 [.lst 10 ln lf]).bind fun r8 => if hasSh .str r8 = true then
    Option.bind (α := PV) (
      if (r6.toStr.toList == r8.toStr.toList) = true then
        Option.bind (α := PV) (
          Option.bind (α := PV) (
            Option.bind (α := PV) (
              (D 26 [.sc (.int .i64 n_), .lst 10 ln lf]).bind fun r9 => if hasSh .str r9 = true then
              some (.sc (.bool (r7.toStr.toList == r9.toStr.toList)))
              else none) fun r10 =>
            some (.sc (.bool r10.toBool))) fun r11 =>
          some (.sc (.bool r11.toBool))) fun r12 =>
        some (.sc (.bool r12.toBool))
      else
        some (.sc (.bool false))) fun r13 =>
    Option.bind (α := PV) (
      if r13.toBool = true then
        (D 21 []).bind fun r14 => if hasSh .bool r14 = true then
        some (.sc (.bool r14.toBool))
        else none
      else
        some (.sc (.bool false))) fun r15 =>
    some (.sc (.bool r15.toBool))
    else none
    else none
    else none :=
  (loopAt_eq _ _ _ _).trans (by kernel_rfl)
theorem f4.l0b_eq (k : Nat) (ln : Nat) (lf : Nat → PV) (n_ : Int) (t22n : Nat) (t22f : Nat → PV) (t23 t24 : Int) (mine : List PV) : f4.l0b k ln lf n_ t22n t22f t23 t24 mine =
  if decide (t24 < t23) = true then
    if 0 ≤ t24 then
      if t24 < (t22n : Int) then
        if hasSh (.agg [(.int .i64), (.int .i64), .bool, (.int .i64), (.int .i64), .str, .bool, (.int .i64), (.int .i64), .str]) (t22f t24.toNat) = true then
          (D 22 [frozen 7 ([.agg [.sc (.int .i64 ((cel 3 (t22f t24.toNat).cells).toInt)), .sc (.int .i64 ((cel 4 (t22f t24.toNat).cells).toInt)), .sc (.string ((cel 5 (t22f t24.toNat).cells).toStr)), .sc (.bool ((cel 6 (t22f t24.toNat).cells).toBool)), .sc (.int .i64 ((cel 7 (t22f t24.toNat).cells).toInt)), .sc (.int .i64 ((cel 8 (t22f t24.toNat).cells).toInt)), .sc (.string ((cel 9 (t22f t24.toNat).cells).toStr))]] : List PV)]).bind fun r16 => if hasSh .bool r16 = true then
          if (!r16.toBool) = true then
            (D 21 []).bind fun r17 => if hasSh .bool r17 = true then
            some (.sc (.bool r17.toBool))
            else none
          else
            if (mine.length + ([.agg [.sc (.int .i64 ((cel 0 (t22f t24.toNat).cells).toInt)), .sc (.int .i64 ((cel 1 (t22f t24.toNat).cells).toInt)), .sc (.bool ((cel 2 (t22f t24.toNat).cells).toBool)), .sc (.int .i64 ((cel 3 (t22f t24.toNat).cells).toInt)), .sc (.int .i64 ((cel 4 (t22f t24.toNat).cells).toInt)), .sc (.string ((cel 5 (t22f t24.toNat).cells).toStr)), .sc (.bool ((cel 6 (t22f t24.toNat).cells).toBool)), .sc (.int .i64 ((cel 7 (t22f t24.toNat).cells).toInt)), .sc (.int .i64 ((cel 8 (t22f t24.toNat).cells).toInt)), .sc (.string ((cel 9 (t22f t24.toNat).cells).toStr))]] : List PV).length) * 96 ≤ 140737488355328 ∧ mine.length + ([.agg [.sc (.int .i64 ((cel 0 (t22f t24.toNat).cells).toInt)), .sc (.int .i64 ((cel 1 (t22f t24.toNat).cells).toInt)), .sc (.bool ((cel 2 (t22f t24.toNat).cells).toBool)), .sc (.int .i64 ((cel 3 (t22f t24.toNat).cells).toInt)), .sc (.int .i64 ((cel 4 (t22f t24.toNat).cells).toInt)), .sc (.string ((cel 5 (t22f t24.toNat).cells).toStr)), .sc (.bool ((cel 6 (t22f t24.toNat).cells).toBool)), .sc (.int .i64 ((cel 7 (t22f t24.toNat).cells).toInt)), .sc (.int .i64 ((cel 8 (t22f t24.toNat).cells).toInt)), .sc (.string ((cel 9 (t22f t24.toNat).cells).toStr))]] : List PV).length ≤ 140737488355328 then
              f4.l0b k ln lf n_ t22n t22f t23 (IntKind.i64.wrap (t24 + 1)) (mine ++ ([.agg [.sc (.int .i64 ((cel 0 (t22f t24.toNat).cells).toInt)), .sc (.int .i64 ((cel 1 (t22f t24.toNat).cells).toInt)), .sc (.bool ((cel 2 (t22f t24.toNat).cells).toBool)), .sc (.int .i64 ((cel 3 (t22f t24.toNat).cells).toInt)), .sc (.int .i64 ((cel 4 (t22f t24.toNat).cells).toInt)), .sc (.string ((cel 5 (t22f t24.toNat).cells).toStr)), .sc (.bool ((cel 6 (t22f t24.toNat).cells).toBool)), .sc (.int .i64 ((cel 7 (t22f t24.toNat).cells).toInt)), .sc (.int .i64 ((cel 8 (t22f t24.toNat).cells).toInt)), .sc (.string ((cel 9 (t22f t24.toNat).cells).toStr))]] : List PV))
            else none
          else none
        else none
      else none
    else none
  else
    (D 23 [frozen 10 mine]).bind fun r18 => if hasSh .str r18 = true then
    (D 24 [.sc (.int .i64 n_), frozen 10 mine]).bind fun r19 => if hasSh .str r19 = true then
    (D 25 [.lst 10 ln lf]).bind fun r20 => if hasSh .str r20 = true then
    Option.bind (α := PV) (
      if (r18.toStr.toList == r20.toStr.toList) = true then
        Option.bind (α := PV) (
          Option.bind (α := PV) (
            Option.bind (α := PV) (
              (D 26 [.sc (.int .i64 n_), .lst 10 ln lf]).bind fun r21 => if hasSh .str r21 = true then
              some (.sc (.bool (r19.toStr.toList == r21.toStr.toList)))
              else none) fun r22 =>
            some (.sc (.bool r22.toBool))) fun r23 =>
          some (.sc (.bool r23.toBool))) fun r24 =>
        some (.sc (.bool r24.toBool))
      else
        some (.sc (.bool false))) fun r25 =>
    Option.bind (α := PV) (
      if r25.toBool = true then
        (D 21 []).bind fun r26 => if hasSh .bool r26 = true then
        some (.sc (.bool r26.toBool))
        else none
      else
        some (.sc (.bool false))) fun r27 =>
    some (.sc (.bool r27.toBool))
    else none
    else none
    else none :=
  (loopAt_eq _ _ _ _).trans (by kernel_rfl)
-- oculus/oculuslaw45.alive
theorem f21_eq (k : Nat)  : D 21 [] =
  (D 58 [.sc (.int .i64 20000)]).bind fun r1 => if hasSh (.agg [(.int .i64), (.int .i64), .str]) r1 = true then
  (D 39 [.sc (.string (⟨#[101, 114, 114, 111, 114, 32, 49, 51]⟩ : ByteArray))]).bind fun r2 => if hasSh (.tup [(.int .i64), .bool]) r2 = true then
  Option.bind (α := PV) (
    if (cel 1 r2.parts).toBool = true then
      some (.sc (.bool (((cel 0 r2.parts).toInt) == 13)))
    else
      some (.sc (.bool false))) fun r3 =>
  if r3.toBool = true then
    Option.bind (α := PV) (
      (D 23 [frozen 10 ([.agg [.sc (.int .i64 0), .sc (.int .i64 0), .sc (.bool true), .sc (.int .i64 0), .sc (.int .i64 0), .sc (.string (⟨#[49, 43, 49]⟩ : ByteArray)), .sc (.bool false), .sc (.int .i64 ((cel 0 r1.cells).toInt)), .sc (.int .i64 ((cel 1 r1.cells).toInt)), .sc (.string ((cel 2 r1.cells).toStr))]] : List PV)]).bind fun r4 => if hasSh .str r4 = true then
      some (.sc (.bool (r4.toStr.toList == (⟨#[111, 107, 10, 65, 49, 32, 49, 43, 49, 32, 61, 32, 50]⟩ : ByteArray).toList)))
      else none) fun r5 =>
    if r5.toBool = true then
      Option.bind (α := PV) (
        (D 31 [frozen 7 ([.agg [.sc (.int .i64 0), .sc (.int .i64 0), .sc (.string (⟨#[49, 43, 49]⟩ : ByteArray)), .sc (.bool false), .sc (.int .i64 ((cel 0 r1.cells).toInt)), .sc (.int .i64 ((cel 1 r1.cells).toInt)), .sc (.string ((cel 2 r1.cells).toStr))]] : List PV)]).bind fun r6 => if hasSh .str r6 = true then
        some (.sc (.bool (r6.toStr.toList == (⟨#[118, 105, 101, 119, 32, 49, 10, 65, 49, 32, 49, 43, 49, 32, 61, 32, 50]⟩ : ByteArray).toList)))
        else none) fun r7 =>
      Option.bind (α := PV) (
        if r7.toBool = true then
          Option.bind (α := PV) (
            (D 27 [.agg [.sc (.int .i64 0), .sc (.int .i64 0), .sc (.string (⟨#[49, 43, 49]⟩ : ByteArray)), .sc (.bool false), .sc (.int .i64 ((cel 0 r1.cells).toInt)), .sc (.int .i64 ((cel 1 r1.cells).toInt)), .sc (.string ((cel 2 r1.cells).toStr))], .sc (.bool true)]).bind fun r8 => if hasSh .str r8 = true then
            some (.sc (.bool (r8.toStr.toList == (⟨#[118, 97, 108, 117, 101, 32, 50]⟩ : ByteArray).toList)))
            else none) fun r9 =>
          some (.sc (.bool r9.toBool))
        else
          some (.sc (.bool false))) fun r10 =>
      Option.bind (α := PV) (
        if r10.toBool = true then
          Option.bind (α := PV) (
            (D 29 [.agg [.sc (.int .i64 0), .sc (.int .i64 0), .sc (.string (⟨#[49, 43, 49]⟩ : ByteArray)), .sc (.bool false), .sc (.int .i64 ((cel 0 r1.cells).toInt)), .sc (.int .i64 ((cel 1 r1.cells).toInt)), .sc (.string ((cel 2 r1.cells).toStr))], .sc (.bool false)]).bind fun r11 => if hasSh .str r11 = true then
            some (.sc (.bool (r11.toStr.toList == (⟨#[102, 111, 114, 109, 117, 108, 97]⟩ : ByteArray).toList)))
            else none) fun r12 =>
          some (.sc (.bool r12.toBool))
        else
          some (.sc (.bool false))) fun r13 =>
      some (.sc (.bool r13.toBool))
    else
      some (.sc (.bool false))
  else
    some (.sc (.bool false))
  else none
  else none :=
  (denI_eq k _ _).trans (by kernel_rfl)
-- oculus/reply.Done
theorem f23_eq (k : Nat) (ln : Nat) (lf : Nat → PV) : D 23 [.lst 10 ln lf] =
  (D 74 [.sc (.string (⟨#[111, 107]⟩ : ByteArray)), .lst 10 ln lf]).bind fun r1 => if hasSh .str r1 = true then
  some (.sc (.string r1.toStr))
  else none :=
  (denI_eq k _ _).trans (by kernel_rfl)
-- oculus/reply.lines
noncomputable def f74.l0a (k : Nat) (t10n : Nat) (t10f : Nat → PV) (t11 t12 : Int) (out : List PV) : Option PV := loopAt Tryz.prog cf ext hint k 74 [1, 1, 0, 1, 0] ⟨[.top, .top, .top, .top, .top, .buf 0 0, .top, .top, .top, .top, .lst 10 t10n t10f, .sc (.int .i64 t11), .sc (.int .i64 t12), .top, .top, .top, .top, .top, .top, .top, .top, .top, .top, .top], [.buf 9 0 out], none⟩
theorem f74_eq (k : Nat) (head : ByteArray) (ln : Nat) (lf : Nat → PV) : D 74 [.sc (.string head), .lst 10 ln lf] =
  f74.l0a k ln lf (ln : Int) 0 ([.sc (.string head)] : List PV) :=
  (denI_eq k _ _).trans (by kernel_rfl)
theorem f74.l0a_eq (k : Nat) (t10n : Nat) (t10f : Nat → PV) (t11 t12 : Int) (out : List PV) : f74.l0a k t10n t10f t11 t12 out =
  if decide (t12 < t11) = true then
    if 0 ≤ t12 then
      if t12 < (t10n : Int) then
        if hasSh (.agg [(.int .i64), (.int .i64), .bool, (.int .i64), (.int .i64), .str, .bool, (.int .i64), (.int .i64), .str]) (t10f t12.toNat) = true then
          (D 112 [.agg [.sc (.int .i64 ((cel 0 (t10f t12.toNat).cells).toInt)), .sc (.int .i64 ((cel 1 (t10f t12.toNat).cells).toInt)), .sc (.bool ((cel 2 (t10f t12.toNat).cells).toBool)), .sc (.int .i64 ((cel 3 (t10f t12.toNat).cells).toInt)), .sc (.int .i64 ((cel 4 (t10f t12.toNat).cells).toInt)), .sc (.string ((cel 5 (t10f t12.toNat).cells).toStr)), .sc (.bool ((cel 6 (t10f t12.toNat).cells).toBool)), .sc (.int .i64 ((cel 7 (t10f t12.toNat).cells).toInt)), .sc (.int .i64 ((cel 8 (t10f t12.toNat).cells).toInt)), .sc (.string ((cel 9 (t10f t12.toNat).cells).toStr))]]).bind fun r1 => if hasSh .str r1 = true then
          if (out.length + ([.sc (.string r1.toStr)] : List PV).length) * 16 ≤ 140737488355328 ∧ out.length + ([.sc (.string r1.toStr)] : List PV).length ≤ 140737488355328 then
            f74.l0a k t10n t10f t11 (IntKind.i64.wrap (t12 + 1)) (out ++ ([.sc (.string r1.toStr)] : List PV))
          else none
          else none
        else none
      else none
    else none
  else
    (D 79 [frozen 1 out, .sc (.string (⟨#[10]⟩ : ByteArray))]).bind fun r2 => if hasSh .str r2 = true then
    some (.sc (.string r2.toStr))
    else none :=
  (loopAt_eq _ _ _ _).trans (by kernel_rfl)
-- oculus/diff.Text
theorem f112_eq (k : Nat) (c c_1 : Int) (c_2 : Bool) (c_3 c_4 : Int) (c_5 : ByteArray) (c_6 : Bool) (c_7 c_8 : Int) (c_9 : ByteArray) : D 112 [.agg [.sc (.int .i64 c), .sc (.int .i64 c_1), .sc (.bool c_2), .sc (.int .i64 c_3), .sc (.int .i64 c_4), .sc (.string c_5), .sc (.bool c_6), .sc (.int .i64 c_7), .sc (.int .i64 c_8), .sc (.string c_9)]] =
  if (!c_2) = true then
    (D 114 [.agg [.sc (.int .i64 c), .sc (.int .i64 c_1)]]).bind fun r1 => if hasSh .str r1 = true then
    if r1.toStr.size + 5 ≤ 9223372036854775807 then
      some (.sc (.string (r1.toStr ++ (⟨#[32, 103, 111, 110, 101]⟩ : ByteArray))))
    else none
    else none
  else
    (D 78 [.agg [.sc (.int .i64 c_3), .sc (.int .i64 c_4), .sc (.string c_5), .sc (.bool c_6), .sc (.int .i64 c_7), .sc (.int .i64 c_8), .sc (.string c_9)]]).bind fun r2 => if hasSh .str r2 = true then
    some (.sc (.string r2.toStr))
    else none :=
  (denI_eq k _ _).trans (by kernel_rfl)
-- oculus/view.Text
noncomputable def f78.j0a (k : Nat) (v_ : ByteArray) (r r_1 : Int) (r_2 : ByteArray) (r_3 : Bool) (r_4 r_5 : Int) (r_6 : ByteArray) : Option PV := gateK k (placeAt Tryz.prog cf ext hint k 78 [1, 1, 1]) ⟨[.top, .ptr 0 0, .top, .sc (.string v_), .top, .top, .top, .top, .top, .top, .top, .top, .top, .top, .top, .top, .top, .top, .top, .top], [.cells 34 [.sc (.int .i64 r), .sc (.int .i64 r_1), .sc (.string r_2), .sc (.bool r_3), .sc (.int .i64 r_4), .sc (.int .i64 r_5), .sc (.string r_6)]], none⟩
theorem f78_eq (k : Nat) (r r_1 : Int) (r_2 : ByteArray) (r_3 : Bool) (r_4 r_5 : Int) (r_6 : ByteArray) : D 78 [.agg [.sc (.int .i64 r), .sc (.int .i64 r_1), .sc (.string r_2), .sc (.bool r_3), .sc (.int .i64 r_4), .sc (.int .i64 r_5), .sc (.string r_6)]] =
  if (!r_3) = true then
    (D 17 [.agg [.sc (.int .i64 r_4), .sc (.int .i64 r_5), .sc (.string r_6)]]).bind fun r1 => if hasSh .str r1 = true then
    f78.j0a k r1.toStr r r_1 r_2 r_3 r_4 r_5 r_6
    else none
  else
    f78.j0a k (⟨#[63]⟩ : ByteArray) r r_1 r_2 r_3 r_4 r_5 r_6 :=
  (denI_eq k _ _).trans (by kernel_rfl)
theorem f78.j0a_eq (k : Nat) (v_ : ByteArray) (r r_1 : Int) (r_2 : ByteArray) (r_3 : Bool) (r_4 r_5 : Int) (r_6 : ByteArray) : f78.j0a k v_ r r_1 r_2 r_3 r_4 r_5 r_6 =
  (D 114 [.agg [.sc (.int .i64 r), .sc (.int .i64 r_1)]]).bind fun r2 => if hasSh .str r2 = true then
  if r2.toStr.size + 1 ≤ 9223372036854775807 then
    if (r2.toStr ++ (⟨#[32]⟩ : ByteArray)).size + r_2.size ≤ 9223372036854775807 then
      if ((r2.toStr ++ (⟨#[32]⟩ : ByteArray)) ++ r_2).size + 3 ≤ 9223372036854775807 then
        if (((r2.toStr ++ (⟨#[32]⟩ : ByteArray)) ++ r_2) ++ (⟨#[32, 61, 32]⟩ : ByteArray)).size + v_.size ≤ 9223372036854775807 then
          some (.sc (.string ((((r2.toStr ++ (⟨#[32]⟩ : ByteArray)) ++ r_2) ++ (⟨#[32, 61, 32]⟩ : ByteArray)) ++ v_)))
        else none
      else none
    else none
  else none
  else none :=
  (gateK_open _ _ _).trans (by kernel_rfl)
-- oculus/value.Show
theorem f17_eq (k : Nat) (v_ v__1 : Int) (v__2 : ByteArray) : D 17 [.agg [.sc (.int .i64 v_), .sc (.int .i64 v__1), .sc (.string v__2)]] =
  if (v_ == 0) = true then
    some (.sc (.string (⟨#[]⟩ : ByteArray)))
  else
    if (v_ == 2) = true then
      (D 19 [.sc (.string v__2)]).bind fun r1 => if hasSh .str r1 = true then
      some (.sc (.string r1.toStr))
      else none
    else
      if (v_ == 4) = true then
        (D 71 [.sc (.int .i64 v__1)]).bind fun r2 => if hasSh .str r2 = true then
        some (.sc (.string r2.toStr))
        else none
      else
        (D 12 [.agg [.sc (.int .i64 v_), .sc (.int .i64 v__1), .sc (.string v__2)]]).bind fun r3 => if hasSh (.agg [(.int .i64), (.int .i64), .str]) r3 = true then
        some (.sc (.string ((cel 2 r3.cells).toStr)))
        else none :=
  (denI_eq k _ _).trans (by kernel_rfl)
-- oculus/value.AsText
theorem f12_eq (k : Nat) (v_ v__1 : Int) (v__2 : ByteArray) : D 12 [.agg [.sc (.int .i64 v_), .sc (.int .i64 v__1), .sc (.string v__2)]] =
  if (v_ == 0) = true then
    (D 57 [.sc (.string (⟨#[]⟩ : ByteArray))]).bind fun r1 => if hasSh (.agg [(.int .i64), (.int .i64), .str]) r1 = true then
    some (.agg [.sc (.int .i64 ((cel 0 r1.cells).toInt)), .sc (.int .i64 ((cel 1 r1.cells).toInt)), .sc (.string ((cel 2 r1.cells).toStr))])
    else none
  else
    if (v_ == 3) = true then
      (D 63 [.agg [.sc (.int .i64 v_), .sc (.int .i64 v__1), .sc (.string v__2)]]).bind fun r2 => if hasSh .str r2 = true then
      (D 57 [.sc (.string r2.toStr)]).bind fun r3 => if hasSh (.agg [(.int .i64), (.int .i64), .str]) r3 = true then
      some (.agg [.sc (.int .i64 ((cel 0 r3.cells).toInt)), .sc (.int .i64 ((cel 1 r3.cells).toInt)), .sc (.string ((cel 2 r3.cells).toStr))])
      else none
      else none
    else
      if (v_ == 1) = true then
        (D 64 [.sc (.int .i64 v__1)]).bind fun r4 => if hasSh .str r4 = true then
        (D 57 [.sc (.string r4.toStr)]).bind fun r5 => if hasSh (.agg [(.int .i64), (.int .i64), .str]) r5 = true then
        some (.agg [.sc (.int .i64 ((cel 0 r5.cells).toInt)), .sc (.int .i64 ((cel 1 r5.cells).toInt)), .sc (.string ((cel 2 r5.cells).toStr))])
        else none
        else none
      else
        some (.agg [.sc (.int .i64 v_), .sc (.int .i64 v__1), .sc (.string v__2)]) :=
  (denI_eq k _ _).trans (by kernel_rfl)
-- oculus/value.Str
theorem f57_eq (k : Nat) (t : ByteArray) : D 57 [.sc (.string t)] =
  (D 99 [.agg [.sc (.int .i64 2), .sc (.int .i64 0), .sc (.string t)], .sc (.int .i64 2)]).bind fun r1 => if hasSh (.agg [(.int .i64), (.int .i64), .str]) r1 = true then
  some (.agg [.sc (.int .i64 ((cel 0 r1.cells).toInt)), .sc (.int .i64 ((cel 1 r1.cells).toInt)), .sc (.string ((cel 2 r1.cells).toStr))])
  else none :=
  (denI_eq k _ _).trans (by kernel_rfl)
-- oculus/value.made
theorem f99_eq (k : Nat) (v_ v__1 : Int) (v__2 : ByteArray) (code : Int) : D 99 [.agg [.sc (.int .i64 v_), .sc (.int .i64 v__1), .sc (.string v__2)], .sc (.int .i64 code)] =
  (D 134 [.agg [.sc (.int .i64 v_), .sc (.int .i64 v__1), .sc (.string v__2)]]).bind fun r1 => if hasSh .bool r1 = true then
  if (!r1.toBool) = true then
    some (.agg [.sc (.int .i64 4), .sc (.int .i64 code), .sc (.string (⟨#[]⟩ : ByteArray))])
  else
    some (.agg [.sc (.int .i64 v_), .sc (.int .i64 v__1), .sc (.string v__2)])
  else none :=
  (denI_eq k _ _).trans (by kernel_rfl)
-- oculus/value.May
theorem f134_eq (k : Nat) (v_ v__1 : Int) (v__2 : ByteArray) : D 134 [.agg [.sc (.int .i64 v_), .sc (.int .i64 v__1), .sc (.string v__2)]] =
  if (v_ == 0) = true then
    Option.bind (α := PV) (
      if (v__1 == 0) = true then
        some (.sc (.bool (v__2.toList == (⟨#[]⟩ : ByteArray).toList)))
      else
        some (.sc (.bool false))) fun r1 =>
    some (.sc (.bool r1.toBool))
  else
    if (v_ == 1) = true then
      (D 106 [.sc (.int .i64 v__1)]).bind fun r2 => if hasSh .bool r2 = true then
      Option.bind (α := PV) (
        if r2.toBool = true then
          some (.sc (.bool (v__2.toList == (⟨#[]⟩ : ByteArray).toList)))
        else
          some (.sc (.bool false))) fun r3 =>
      some (.sc (.bool r3.toBool))
      else none
    else
      if (v_ == 2) = true then
        Option.bind (α := PV) (
          if (v__1 == 0) = true then
            some (.sc (.bool (decide ((v__2.size : Int) ≤ 256))))
          else
            some (.sc (.bool false))) fun r4 =>
        some (.sc (.bool r4.toBool))
      else
        if (v_ == 3) = true then
          Option.bind (α := PV) (
            if (v__1 == 0) = true then
              some (.sc (.bool true))
            else
              some (.sc (.bool (v__1 == 1)))) fun r5 =>
          Option.bind (α := PV) (
            if r5.toBool = true then
              some (.sc (.bool (v__2.toList == (⟨#[]⟩ : ByteArray).toList)))
            else
              some (.sc (.bool false))) fun r6 =>
          some (.sc (.bool r6.toBool))
        else
          if (v_ == 4) = true then
            Option.bind (α := PV) (
              if decide (v__1 ≥ 1) = true then
                some (.sc (.bool (decide (v__1 ≤ 7))))
              else
                some (.sc (.bool false))) fun r7 =>
            Option.bind (α := PV) (
              if r7.toBool = true then
                some (.sc (.bool (v__2.toList == (⟨#[]⟩ : ByteArray).toList)))
              else
                some (.sc (.bool false))) fun r8 =>
            some (.sc (.bool r8.toBool))
          else
            some (.sc (.bool false)) :=
  (denI_eq k _ _).trans (by kernel_rfl)
-- oculus/dec.May
theorem f106_eq (k : Nat) (x_ : Int) : D 106 [.sc (.int .i64 x_)] =
  some (.sc (.bool (x_ != (-9223372036854775808)))) :=
  (denI_eq k _ _).trans (by kernel_rfl)
-- oculus/value.truth
theorem f63_eq (k : Nat) (v_ v__1 : Int) (v__2 : ByteArray) : D 63 [.agg [.sc (.int .i64 v_), .sc (.int .i64 v__1), .sc (.string v__2)]] =
  if (v__1 == 1) = true then
    some (.sc (.string (⟨#[84, 82, 85, 69]⟩ : ByteArray)))
  else
    some (.sc (.string (⟨#[70, 65, 76, 83, 69]⟩ : ByteArray))) :=
  (denI_eq k _ _).trans (by kernel_rfl)
-- oculus/digits.Text
noncomputable def f64.j0a (k : Nat) (x_ : Int) (out : ByteArray) : Option PV := gateK k (placeAt Tryz.prog cf ext hint k 64 [1, 1, 1, 1]) ⟨[.sc (.int .i64 x_), .top, .top, .sc (.string out), .top, .top, .top, .top, .top, .top, .top, .top, .top, .top, .top, .top, .top, .top, .top, .top, .top, .top, .top, .top, .top, .top, .top, .top, .top, .top, .top, .top, .top, .top, .top, .top, .top, .top], [], none⟩
theorem f64_eq (k : Nat) (x_ : Int) : D 64 [.sc (.int .i64 x_)] =
  (D 106 [.sc (.int .i64 x_)]).bind fun r1 => if hasSh .bool r1 = true then
  if (!r1.toBool) = true then
    some (.sc (.string (⟨#[]⟩ : ByteArray)))
  else
    (D 108 [.sc (.int .i64 x_)]).bind fun r2 => if hasSh (.int .i64) r2 = true then
    (D 107 [.sc (.int .i64 r2.toInt), .sc (.int .i64 10)]).bind fun r3 => if hasSh .str r3 = true then
    Option.bind (α := PV) (
      if decide (x_ < 0) = true then
        some (.sc (.bool (decide (x_ > (-10000)))))
      else
        some (.sc (.bool false))) fun r4 =>
    if r4.toBool = true then
      if 1 + r3.toStr.size ≤ 9223372036854775807 then
        f64.j0a k x_ ((⟨#[45]⟩ : ByteArray) ++ r3.toStr)
      else none
    else
      f64.j0a k x_ r3.toStr
    else none
    else none
  else none :=
  (denI_eq k _ _).trans (by kernel_rfl)
theorem f64.j0a_eq (k : Nat) (x_ : Int) (out : ByteArray) : f64.j0a k x_ out =
  if ((x_.tmod 10000) == 0) = true then
    some (.sc (.string out))
  else
    (D 107 [.sc (.int .i64 (IntKind.i64.wrap ((10000 : Int) + (if IntKind.i64.wrap (0 - (x_.tmod 10000)) > x_.tmod 10000 then IntKind.i64.wrap (0 - (x_.tmod 10000)) else x_.tmod 10000)))), .sc (.int .i64 10)]).bind fun r5 => if hasSh .str r5 = true then
    if 0 ≤ (r5.toStr.size : Int) then
      if (r5.toStr.size : Int) ≤ (r5.toStr.size : Int) then
        if 1 ≤ (r5.toStr.size : Int) then
          if out.size + 1 ≤ 9223372036854775807 then
            (D 109 [.sc (.string (r5.toStr.extract 1 (r5.toStr.size : Int).toNat)), .sc (.string (⟨#[48]⟩ : ByteArray))]).bind fun r6 => if hasSh .str r6 = true then
            if (out ++ (⟨#[46]⟩ : ByteArray)).size + r6.toStr.size ≤ 9223372036854775807 then
              some (.sc (.string ((out ++ (⟨#[46]⟩ : ByteArray)) ++ r6.toStr)))
            else none
            else none
          else none
        else none
      else none
    else none
    else none :=
  (gateK_open _ _ _).trans (by kernel_rfl)
-- oculus/dec.Units
theorem f108_eq (k : Nat) (x_ : Int) : D 108 [.sc (.int .i64 x_)] =
  (D 106 [.sc (.int .i64 x_)]).bind fun r1 => if hasSh .bool r1 = true then
  if (!r1.toBool) = true then
    some (.sc (.int .i64 0))
  else
    some (.sc (.int .i64 (IntKind.i64.wrap (x_.tdiv 10000))))
  else none :=
  (denI_eq k _ _).trans (by kernel_rfl)
-- oculus/value.Quote
theorem f19_eq (k : Nat) (t : ByteArray) : D 19 [.sc (.string t)] =
  (D 73 [.sc (.string t), .sc (.string (⟨#[34]⟩ : ByteArray)), .sc (.string (⟨#[34, 34]⟩ : ByteArray))]).bind fun r1 => if hasSh .str r1 = true then
  if 1 + r1.toStr.size ≤ 9223372036854775807 then
    if ((⟨#[34]⟩ : ByteArray) ++ r1.toStr).size + 1 ≤ 9223372036854775807 then
      some (.sc (.string (((⟨#[34]⟩ : ByteArray) ++ r1.toStr) ++ (⟨#[34]⟩ : ByteArray))))
    else none
  else none
  else none :=
  (denI_eq k _ _).trans (by kernel_rfl)
-- oculus/value.FaultText
theorem f71_eq (k : Nat) (code : Int) : D 71 [.sc (.int .i64 code)] =
  if (code == 1) = true then
    some (.sc (.string (⟨#[35, 68, 73, 86]⟩ : ByteArray)))
  else
    if (code == 2) = true then
      some (.sc (.string (⟨#[35, 86, 65, 76, 85, 69]⟩ : ByteArray)))
    else
      if (code == 3) = true then
        some (.sc (.string (⟨#[35, 82, 69, 70]⟩ : ByteArray)))
      else
        if (code == 4) = true then
          some (.sc (.string (⟨#[35, 78, 85, 77]⟩ : ByteArray)))
        else
          if (code == 5) = true then
            some (.sc (.string (⟨#[35, 78, 65]⟩ : ByteArray)))
          else
            if (code == 6) = true then
              some (.sc (.string (⟨#[35, 65, 85, 84, 72]⟩ : ByteArray)))
            else
              if (code == 7) = true then
                some (.sc (.string (⟨#[35, 67, 89, 67, 76, 69]⟩ : ByteArray)))
              else
                some (.sc (.string (⟨#[]⟩ : ByteArray))) :=
  (denI_eq k _ _).trans (by kernel_rfl)
-- oculus/addr.Name
theorem f114_eq (k : Nat) (c c_1 : Int) : D 114 [.agg [.sc (.int .i64 c), .sc (.int .i64 c_1)]] =
  (D 151 [.agg [.sc (.int .i64 c), .sc (.int .i64 c_1)]]).bind fun r1 => if hasSh .bool r1 = true then
  if (!r1.toBool) = true then
    some (.sc (.string (⟨#[]⟩ : ByteArray)))
  else
    (D 152 [.sc (.int .i64 c_1)]).bind fun r2 => if hasSh .str r2 = true then
    (D 153 [.sc (.int .i64 (IntKind.i64.wrap (c + 1)))]).bind fun r3 => if hasSh .str r3 = true then
    if r2.toStr.size + r3.toStr.size ≤ 9223372036854775807 then
      some (.sc (.string (r2.toStr ++ r3.toStr)))
    else none
    else none
    else none
  else none :=
  (denI_eq k _ _).trans (by kernel_rfl)
-- oculus/addr.May
theorem f151_eq (k : Nat) (c c_1 : Int) : D 151 [.agg [.sc (.int .i64 c), .sc (.int .i64 c_1)]] =
  Option.bind (α := PV) (
    if decide (c ≥ 0) = true then
      some (.sc (.bool (decide (c < 999))))
    else
      some (.sc (.bool false))) fun r1 =>
  Option.bind (α := PV) (
    if r1.toBool = true then
      some (.sc (.bool (decide (c_1 ≥ 0))))
    else
      some (.sc (.bool false))) fun r2 =>
  Option.bind (α := PV) (
    if r2.toBool = true then
      some (.sc (.bool (decide (c_1 < 702))))
    else
      some (.sc (.bool false))) fun r3 =>
  some (.sc (.bool r3.toBool)) :=
  (denI_eq k _ _).trans (by kernel_rfl)
-- oculus/addr.Letters
theorem f152_eq (k : Nat) (col : Int) : D 152 [.sc (.int .i64 col)] =
  Option.bind (α := PV) (
    if decide (col < 0) = true then
      some (.sc (.bool true))
    else
      some (.sc (.bool (decide (col ≥ 702))))) fun r1 =>
  if r1.toBool = true then
    some (.sc (.string (⟨#[]⟩ : ByteArray)))
  else
    if decide (col < 26) = true then
      if ([.sc (.int .u8 (IntKind.u8.wrap (IntKind.i64.wrap ((65 : Int) + col))))] : List PV).all (hasSh (.int .u8)) = true then
        some (.sc (.string (bytesOf ([.sc (.int .u8 (IntKind.u8.wrap (IntKind.i64.wrap ((65 : Int) + col))))] : List PV))))
      else none
    else
      if ([.sc (.int .u8 (IntKind.u8.wrap (IntKind.i64.wrap ((IntKind.i64.wrap ((65 : Int) + (IntKind.i64.wrap (col.tdiv 26)))) - 1)))), .sc (.int .u8 (IntKind.u8.wrap (IntKind.i64.wrap ((65 : Int) + (col.tmod 26)))))] : List PV).all (hasSh (.int .u8)) = true then
        some (.sc (.string (bytesOf ([.sc (.int .u8 (IntKind.u8.wrap (IntKind.i64.wrap ((IntKind.i64.wrap ((65 : Int) + (IntKind.i64.wrap (col.tdiv 26)))) - 1)))), .sc (.int .u8 (IntKind.u8.wrap (IntKind.i64.wrap ((65 : Int) + (col.tmod 26)))))] : List PV))))
      else none :=
  (denI_eq k _ _).trans (by kernel_rfl)
-- oculus/reply.Value
theorem f27_eq (k : Nat) (r r_1 : Int) (r_2 : ByteArray) (r_3 : Bool) (r_4 r_5 : Int) (r_6 : ByteArray) (there : Bool) : D 27 [.agg [.sc (.int .i64 r), .sc (.int .i64 r_1), .sc (.string r_2), .sc (.bool r_3), .sc (.int .i64 r_4), .sc (.int .i64 r_5), .sc (.string r_6)], .sc (.bool there)] =
  if (!there) = true then
    some (.sc (.string (⟨#[118, 97, 108, 117, 101]⟩ : ByteArray)))
  else
    if r_3 = true then
      some (.sc (.string (⟨#[118, 97, 108, 117, 101, 32, 63]⟩ : ByteArray)))
    else
      (D 17 [.agg [.sc (.int .i64 r_4), .sc (.int .i64 r_5), .sc (.string r_6)]]).bind fun r1 => if hasSh .str r1 = true then
      if 6 + r1.toStr.size ≤ 9223372036854775807 then
        some (.sc (.string ((⟨#[118, 97, 108, 117, 101, 32]⟩ : ByteArray) ++ r1.toStr)))
      else none
      else none :=
  (denI_eq k _ _).trans (by kernel_rfl)
-- oculus/reply.Formula
theorem f29_eq (k : Nat) (r r_1 : Int) (r_2 : ByteArray) (r_3 : Bool) (r_4 r_5 : Int) (r_6 : ByteArray) (there : Bool) : D 29 [.agg [.sc (.int .i64 r), .sc (.int .i64 r_1), .sc (.string r_2), .sc (.bool r_3), .sc (.int .i64 r_4), .sc (.int .i64 r_5), .sc (.string r_6)], .sc (.bool there)] =
  if (!there) = true then
    some (.sc (.string (⟨#[102, 111, 114, 109, 117, 108, 97]⟩ : ByteArray)))
  else
    if 8 + r_2.size ≤ 9223372036854775807 then
      some (.sc (.string ((⟨#[102, 111, 114, 109, 117, 108, 97, 32]⟩ : ByteArray) ++ r_2)))
    else none :=
  (denI_eq k _ _).trans (by kernel_rfl)
-- oculus/reply.View
noncomputable def f31.l0a (k : Nat) (t11n : Nat) (t11f : Nat → PV) (t12 t13 : Int) (out : List PV) : Option PV := loopAt Tryz.prog cf ext hint k 31 [1, 1, 0, 1, 0] ⟨[.top, .top, .top, .buf 0 0, .top, .top, .top, .top, .top, .top, .top, .lst 7 t11n t11f, .sc (.int .i64 t12), .sc (.int .i64 t13), .top, .top, .top, .top, .top, .top, .top, .top, .top, .top, .top], [.buf 9 0 out], none⟩
theorem f31_eq (k : Nat) (ln : Nat) (lf : Nat → PV) : D 31 [.lst 7 ln lf] =
  (D 75 [.sc (.int .i64 (ln : Int))]).bind fun r1 => if hasSh .str r1 = true then
  if 5 + r1.toStr.size ≤ 9223372036854775807 then
    f31.l0a k ln lf (ln : Int) 0 ([.sc (.string ((⟨#[118, 105, 101, 119, 32]⟩ : ByteArray) ++ r1.toStr))] : List PV)
  else none
  else none :=
  (denI_eq k _ _).trans (by kernel_rfl)
theorem f31.l0a_eq (k : Nat) (t11n : Nat) (t11f : Nat → PV) (t12 t13 : Int) (out : List PV) : f31.l0a k t11n t11f t12 t13 out =
  if decide (t13 < t12) = true then
    if 0 ≤ t13 then
      if t13 < (t11n : Int) then
        if hasSh (.agg [(.int .i64), (.int .i64), .str, .bool, (.int .i64), (.int .i64), .str]) (t11f t13.toNat) = true then
          (D 78 [.agg [.sc (.int .i64 ((cel 0 (t11f t13.toNat).cells).toInt)), .sc (.int .i64 ((cel 1 (t11f t13.toNat).cells).toInt)), .sc (.string ((cel 2 (t11f t13.toNat).cells).toStr)), .sc (.bool ((cel 3 (t11f t13.toNat).cells).toBool)), .sc (.int .i64 ((cel 4 (t11f t13.toNat).cells).toInt)), .sc (.int .i64 ((cel 5 (t11f t13.toNat).cells).toInt)), .sc (.string ((cel 6 (t11f t13.toNat).cells).toStr))]]).bind fun r2 => if hasSh .str r2 = true then
          if (out.length + ([.sc (.string r2.toStr)] : List PV).length) * 16 ≤ 140737488355328 ∧ out.length + ([.sc (.string r2.toStr)] : List PV).length ≤ 140737488355328 then
            f31.l0a k t11n t11f t12 (IntKind.i64.wrap (t13 + 1)) (out ++ ([.sc (.string r2.toStr)] : List PV))
          else none
          else none
        else none
      else none
    else none
  else
    (D 79 [frozen 1 out, .sc (.string (⟨#[10]⟩ : ByteArray))]).bind fun r3 => if hasSh .str r3 = true then
    some (.sc (.string r3.toStr))
    else none :=
  (loopAt_eq _ _ _ _).trans (by kernel_rfl)
-- oculus/reply.count
theorem f75_eq (k : Nat) (n_ : Int) : D 75 [.sc (.int .i64 n_)] =
  (D 64 [.sc (.int .i64 (IntKind.i64.wrap (n_ * 10000)))]).bind fun r1 => if hasSh .str r1 = true then
  some (.sc (.string r1.toStr))
  else none :=
  (denI_eq k _ _).trans (by kernel_rfl)
-- oculus/reply.ReadError
theorem f39_eq (k : Nat) (t : ByteArray) : D 39 [.sc (.string t)] =
  (D 84 [.sc (.string t), .sc (.string (⟨#[101, 114, 114, 111, 114, 32]⟩ : ByteArray))]).bind fun r1 => if hasSh (.tup [.str, .bool]) r1 = true then
  (D 85 [.sc (.string ((cel 0 r1.parts).toStr))]).bind fun r2 => if hasSh (.tup [(.int .i64), .bool]) r2 = true then
  Option.bind (α := PV) (
    if (!((cel 1 r1.parts).toBool)) = true then
      some (.sc (.bool true))
    else
      some (.sc (.bool (!((cel 1 r2.parts).toBool))))) fun r3 =>
  Option.bind (α := PV) (
    if r3.toBool = true then
      some (.sc (.bool true))
    else
      Option.bind (α := PV) (
        (D 38 [.sc (.int .i64 (IntKind.i64.wrap (((cel 0 r2.parts).toInt).tdiv 10000)))]).bind fun r4 => if hasSh .str r4 = true then
        some (.sc (.bool (!(r4.toStr.toList == t.toList))))
        else none) fun r5 =>
      some (.sc (.bool r5.toBool))) fun r6 =>
  if r6.toBool = true then
    some (.tup [.sc (.int .i64 0), .sc (.bool false)])
  else
    some (.tup [.sc (.int .i64 (IntKind.i64.wrap (((cel 0 r2.parts).toInt).tdiv 10000))), .sc (.bool true)])
  else none
  else none :=
  (denI_eq k _ _).trans (by kernel_rfl)
-- oculus/reply.Error
theorem f38_eq (k : Nat) (e : Int) : D 38 [.sc (.int .i64 e)] =
  Option.bind (α := PV) (
    if decide (e < 1) = true then
      some (.sc (.bool true))
    else
      some (.sc (.bool (decide (e > 999))))) fun r1 =>
  if r1.toBool = true then
    some (.sc (.string (⟨#[]⟩ : ByteArray)))
  else
    (D 75 [.sc (.int .i64 e)]).bind fun r2 => if hasSh .str r2 = true then
    if 6 + r2.toStr.size ≤ 9223372036854775807 then
      some (.sc (.string ((⟨#[101, 114, 114, 111, 114, 32]⟩ : ByteArray) ++ r2.toStr)))
    else none
    else none :=
  (denI_eq k _ _).trans (by kernel_rfl)
-- oculus/digits.Parse
theorem f85_eq (k : Nat) (t : ByteArray) : D 85 [.sc (.string t)] =
  (D 62 [.sc (.string t)]).bind fun r1 => if hasSh (.tup [(.int .i64), .bool]) r1 = true then
  Option.bind (α := PV) (
    if (!((cel 1 r1.parts).toBool)) = true then
      some (.sc (.bool true))
    else
      Option.bind (α := PV) (
        (D 64 [.sc (.int .i64 ((cel 0 r1.parts).toInt))]).bind fun r2 => if hasSh .str r2 = true then
        some (.sc (.bool (!(r2.toStr.toList == t.toList))))
        else none) fun r3 =>
      some (.sc (.bool r3.toBool))) fun r4 =>
  if r4.toBool = true then
    some (.tup [.sc (.int .i64 0), .sc (.bool false)])
  else
    some (.tup [.sc (.int .i64 ((cel 0 r1.parts).toInt)), .sc (.bool true)])
  else none :=
  (denI_eq k _ _).trans (by kernel_rfl)
end EC
end Go.Den
