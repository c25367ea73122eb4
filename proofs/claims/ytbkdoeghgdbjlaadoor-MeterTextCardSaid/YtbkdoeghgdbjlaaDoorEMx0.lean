import Derived.Test.YtbkdoeghgdbjlaaDoorEMh
import Derived.KernelRfl
set_option maxRecDepth 100000
set_option linter.unusedVariables false
namespace Go.Den
open Go Go.Proofs
namespace EM
-- oculus/oculuslaw36.MeterText
theorem f3_eq (k : Nat) (c c_1 c_2 c_3 c_4 : Int) (t : ByteArray) : D 3 [.agg [.sc (.int .i64 c), .sc (.int .i64 c_1), .sc (.int .i64 c_2), .sc (.int .i64 c_3), .sc (.int .i64 c_4)], .sc (.string t)] =
  if decide ((t.size : Int) > 200) = true then
    (D 5 []).bind fun r1 => if hasSh .bool r1 = true then
    some (.sc (.bool r1.toBool))
    else none
  else
    (D 6 [.agg [.sc (.int .i64 c), .sc (.int .i64 c_1), .sc (.int .i64 c_2), .sc (.int .i64 c_3), .sc (.int .i64 c_4)]]).bind fun r2 => if hasSh .str r2 = true then
    (D 7 [.sc (.string r2.toStr)]).bind fun r3 => if hasSh (.tup [(.agg [(.int .i64), (.int .i64), (.int .i64), (.int .i64), (.int .i64)]), .bool]) r3 = true then
    (D 7 [.sc (.string t)]).bind fun r4 => if hasSh (.tup [(.agg [(.int .i64), (.int .i64), (.int .i64), (.int .i64), (.int .i64)]), .bool]) r4 = true then
    (D 8 [.sc (.string t)]).bind fun r5 => if hasSh (.agg [(.int .i64), (.int .i64), (.int .i64), (.int .i64), (.int .i64), .bool]) r5 = true then
    (D 9 [.agg [.sc (.int .i64 c), .sc (.int .i64 c_1), .sc (.int .i64 c_2), .sc (.int .i64 c_3), .sc (.int .i64 c_4)]]).bind fun r6 => if hasSh .str r6 = true then
    Option.bind (α := PV) (
      if (!(r2.toStr.toList == r6.toStr.toList)) = true then
        some (.sc (.bool true))
      else
        Option.bind (α := PV) (
          Option.bind (α := PV) (
            (D 10 [.agg [.sc (.int .i64 c), .sc (.int .i64 c_1), .sc (.int .i64 c_2), .sc (.int .i64 c_3), .sc (.int .i64 c_4)]]).bind fun r7 => if hasSh .bool r7 = true then
            some (.sc (.bool (!(((cel 1 r3.parts).toBool) == r7.toBool))))
            else none) fun r8 =>
          some (.sc (.bool r8.toBool))) fun r9 =>
        some (.sc (.bool r9.toBool))) fun r10 =>
    Option.bind (α := PV) (
      if r10.toBool = true then
        some (.sc (.bool true))
      else
        Option.bind (α := PV) (
          Option.bind (α := PV) (
            if (cel 1 r3.parts).toBool = true then
              some (.sc (.bool (!((((cel 0 (cel 0 r3.parts).cells).toInt) == c) && ((((cel 1 (cel 0 r3.parts).cells).toInt) == c_1) && ((((cel 2 (cel 0 r3.parts).cells).toInt) == c_2) && ((((cel 3 (cel 0 r3.parts).cells).toInt) == c_3) && ((((cel 4 (cel 0 r3.parts).cells).toInt) == c_4) && true))))))))
            else
              some (.sc (.bool false))) fun r11 =>
          some (.sc (.bool r11.toBool))) fun r12 =>
        some (.sc (.bool r12.toBool))) fun r13 =>
    Option.bind (α := PV) (
      if r13.toBool = true then
        some (.sc (.bool true))
      else
        Option.bind (α := PV) (
          Option.bind (α := PV) (
            Option.bind (α := PV) (
              if (!((cel 1 r3.parts).toBool)) = true then
                some (.sc (.bool (!((((cel 0 (cel 0 r3.parts).cells).toInt) == 0) && ((((cel 1 (cel 0 r3.parts).cells).toInt) == 0) && ((((cel 2 (cel 0 r3.parts).cells).toInt) == 0) && ((((cel 3 (cel 0 r3.parts).cells).toInt) == 0) && ((((cel 4 (cel 0 r3.parts).cells).toInt) == 0) && true))))))))
              else
                some (.sc (.bool false))) fun r14 =>
            some (.sc (.bool r14.toBool))) fun r15 =>
          some (.sc (.bool r15.toBool))) fun r16 =>
        some (.sc (.bool r16.toBool))) fun r17 =>
    if r17.toBool = true then
      some (.sc (.bool false))
    else
      Option.bind (α := PV) (
        if (((cel 1 r4.parts).toBool) == ((cel 5 r5.cells).toBool)) = true then
          some (.sc (.bool ((((cel 0 (cel 0 r4.parts).cells).toInt) == ((cel 0 r5.cells).toInt)) && ((((cel 1 (cel 0 r4.parts).cells).toInt) == ((cel 1 r5.cells).toInt)) && ((((cel 2 (cel 0 r4.parts).cells).toInt) == ((cel 2 r5.cells).toInt)) && ((((cel 3 (cel 0 r4.parts).cells).toInt) == ((cel 3 r5.cells).toInt)) && ((((cel 4 (cel 0 r4.parts).cells).toInt) == ((cel 4 r5.cells).toInt)) && true)))))))
        else
          some (.sc (.bool false))) fun r18 =>
      Option.bind (α := PV) (
        if r18.toBool = true then
          Option.bind (α := PV) (
            Option.bind (α := PV) (
              Option.bind (α := PV) (
                if (!((cel 1 r4.parts).toBool)) = true then
                  some (.sc (.bool true))
                else
                  Option.bind (α := PV) (
                    (D 6 [.agg [.sc (.int .i64 ((cel 0 (cel 0 r4.parts).cells).toInt)), .sc (.int .i64 ((cel 1 (cel 0 r4.parts).cells).toInt)), .sc (.int .i64 ((cel 2 (cel 0 r4.parts).cells).toInt)), .sc (.int .i64 ((cel 3 (cel 0 r4.parts).cells).toInt)), .sc (.int .i64 ((cel 4 (cel 0 r4.parts).cells).toInt))]]).bind fun r19 => if hasSh .str r19 = true then
                    some (.sc (.bool (r19.toStr.toList == t.toList)))
                    else none) fun r20 =>
                  some (.sc (.bool r20.toBool))) fun r21 =>
              some (.sc (.bool r21.toBool))) fun r22 =>
            some (.sc (.bool r22.toBool))) fun r23 =>
          some (.sc (.bool r23.toBool))
        else
          some (.sc (.bool false))) fun r24 =>
      Option.bind (α := PV) (
        if r24.toBool = true then
          (D 5 []).bind fun r25 => if hasSh .bool r25 = true then
          some (.sc (.bool r25.toBool))
          else none
        else
          some (.sc (.bool false))) fun r26 =>
      some (.sc (.bool r26.toBool))
    else none
    else none
    else none
    else none
    else none :=
  (denI_eq k _ _).trans (by kernel_rfl)
-- oculus/oculuslaw36.alive
theorem f5_eq (k : Nat)  : D 5 [] =
  (D 7 [.sc (.string (⟨#[101, 118, 97, 108, 115, 32, 50, 32, 114, 101, 97, 100, 115, 32, 51, 32, 99, 104, 97, 115, 101, 115, 32, 48, 32, 101, 100, 103, 101, 115, 32, 49, 48, 32, 118, 105, 115, 105, 116, 115, 32, 55]⟩ : ByteArray))]).bind fun r1 => if hasSh (.tup [(.agg [(.int .i64), (.int .i64), (.int .i64), (.int .i64), (.int .i64)]), .bool]) r1 = true then
  Option.bind (α := PV) (
    if (cel 1 r1.parts).toBool = true then
      some (.sc (.bool ((((cel 0 (cel 0 r1.parts).cells).toInt) == 2) && ((((cel 1 (cel 0 r1.parts).cells).toInt) == 3) && ((((cel 2 (cel 0 r1.parts).cells).toInt) == 0) && ((((cel 3 (cel 0 r1.parts).cells).toInt) == 10) && ((((cel 4 (cel 0 r1.parts).cells).toInt) == 7) && true)))))))
    else
      some (.sc (.bool false))) fun r2 =>
  Option.bind (α := PV) (
    if r2.toBool = true then
      Option.bind (α := PV) (
        Option.bind (α := PV) (
          (D 14 [.agg [.sc (.int .i64 ((cel 0 (cel 0 r1.parts).cells).toInt)), .sc (.int .i64 ((cel 1 (cel 0 r1.parts).cells).toInt)), .sc (.int .i64 ((cel 2 (cel 0 r1.parts).cells).toInt)), .sc (.int .i64 ((cel 3 (cel 0 r1.parts).cells).toInt)), .sc (.int .i64 ((cel 4 (cel 0 r1.parts).cells).toInt))], .agg [.sc (.int .i64 2), .sc (.int .i64 3), .sc (.int .i64 0), .sc (.int .i64 11), .sc (.int .i64 7)]]).bind fun r3 => if hasSh .bool r3 = true then
          some (.sc (.bool r3.toBool))
          else none) fun r4 =>
        some (.sc (.bool r4.toBool))) fun r5 =>
      some (.sc (.bool r5.toBool))
    else
      some (.sc (.bool false))) fun r6 =>
  Option.bind (α := PV) (
    if r6.toBool = true then
      Option.bind (α := PV) (
        Option.bind (α := PV) (
          (D 14 [.agg [.sc (.int .i64 ((cel 0 (cel 0 r1.parts).cells).toInt)), .sc (.int .i64 ((cel 1 (cel 0 r1.parts).cells).toInt)), .sc (.int .i64 ((cel 2 (cel 0 r1.parts).cells).toInt)), .sc (.int .i64 ((cel 3 (cel 0 r1.parts).cells).toInt)), .sc (.int .i64 ((cel 4 (cel 0 r1.parts).cells).toInt))], .agg [.sc (.int .i64 3), .sc (.int .i64 3), .sc (.int .i64 0), .sc (.int .i64 11), .sc (.int .i64 7)]]).bind fun r7 => if hasSh .bool r7 = true then
          some (.sc (.bool (!r7.toBool)))
          else none) fun r8 =>
        some (.sc (.bool r8.toBool))) fun r9 =>
      some (.sc (.bool r9.toBool))
    else
      some (.sc (.bool false))) fun r10 =>
  Option.bind (α := PV) (
    if r10.toBool = true then
      Option.bind (α := PV) (
        Option.bind (α := PV) (
          (D 15 [.agg [.sc (.int .i64 ((cel 0 (cel 0 r1.parts).cells).toInt)), .sc (.int .i64 ((cel 1 (cel 0 r1.parts).cells).toInt)), .sc (.int .i64 ((cel 2 (cel 0 r1.parts).cells).toInt)), .sc (.int .i64 ((cel 3 (cel 0 r1.parts).cells).toInt)), .sc (.int .i64 ((cel 4 (cel 0 r1.parts).cells).toInt))], .agg [.sc (.int .i64 ((cel 0 (cel 0 r1.parts).cells).toInt)), .sc (.int .i64 ((cel 1 (cel 0 r1.parts).cells).toInt)), .sc (.int .i64 ((cel 2 (cel 0 r1.parts).cells).toInt)), .sc (.int .i64 ((cel 3 (cel 0 r1.parts).cells).toInt)), .sc (.int .i64 ((cel 4 (cel 0 r1.parts).cells).toInt))]]).bind fun r11 => if hasSh (.agg [(.int .i64), (.int .i64), (.int .i64), (.int .i64), (.int .i64)]) r11 = true then
          some (.sc (.bool (((cel 3 r11.cells).toInt) == 20)))
          else none) fun r12 =>
        some (.sc (.bool r12.toBool))) fun r13 =>
      some (.sc (.bool r13.toBool))
    else
      some (.sc (.bool false))) fun r14 =>
  some (.sc (.bool r14.toBool))
  else none :=
  (denI_eq k _ _).trans (by kernel_rfl)
-- oculus/meter.Parse
noncomputable def f7.l0a (k : Nat) (t : ByteArray) (ln : Nat) (lf : Nat → PV) : Option PV := loopAt Tryd.prog cf ext hint k 7 [1, 1, 1, 1, 0, 1, 0] ⟨[.sc (.string t), .top, .ptr 0 0, .top, .ptr 1 0, .lst 1 ln lf, .top, .top, .top, .top, .top, .top, .top, .top, .top, .top, .sc (.int .i64 0), .top, .top, .top, .top, .top, .top, .top, .top, .top, .top, .top, .top, .top, .top, .top, .top, .top, .top, .top, .top, .top, .top, .top, .top, .top, .top, .top, .top, .top, .top, .top, .top, .top, .top, .top, .top, .top], [.cells 23 [.sc (.int .i64 0), .sc (.int .i64 0), .sc (.int .i64 0), .sc (.int .i64 0), .sc (.int .i64 0)], .cells 45 [.sc (.int .i64 0), .sc (.int .i64 0), .sc (.int .i64 0), .sc (.int .i64 0), .sc (.int .i64 0)]], none⟩
noncomputable def f7.l0b (k : Nat) (t : ByteArray) (ln : Nat) (lf : Nat → PV) (n_ : Int) : Option PV := loopAt Tryd.prog cf ext hint k 7 [1, 1, 1, 1, 0, 1, 0] ⟨[.sc (.string t), .top, .ptr 0 0, .top, .ptr 1 0, .lst 1 ln lf, .top, .top, .top, .top, .top, .top, .top, .top, .top, .top, .sc (.int .i64 1), .top, .top, .top, .top, .top, .top, .top, .top, .top, .top, .top, .top, .top, .top, .top, .top, .top, .top, .top, .top, .top, .top, .top, .top, .top, .top, .top, .top, .top, .top, .top, .top, .top, .top, .top, .top, .top], [.cells 23 [.sc (.int .i64 0), .sc (.int .i64 0), .sc (.int .i64 0), .sc (.int .i64 0), .sc (.int .i64 0)], .cells 45 [.sc (.int .i64 n_), .sc (.int .i64 0), .sc (.int .i64 0), .sc (.int .i64 0), .sc (.int .i64 0)]], none⟩
noncomputable def f7.l0c (k : Nat) (t : ByteArray) (ln : Nat) (lf : Nat → PV) (n_ n__1 : Int) : Option PV := loopAt Tryd.prog cf ext hint k 7 [1, 1, 1, 1, 0, 1, 0] ⟨[.sc (.string t), .top, .ptr 0 0, .top, .ptr 1 0, .lst 1 ln lf, .top, .top, .top, .top, .top, .top, .top, .top, .top, .top, .sc (.int .i64 2), .top, .top, .top, .top, .top, .top, .top, .top, .top, .top, .top, .top, .top, .top, .top, .top, .top, .top, .top, .top, .top, .top, .top, .top, .top, .top, .top, .top, .top, .top, .top, .top, .top, .top, .top, .top, .top], [.cells 23 [.sc (.int .i64 0), .sc (.int .i64 0), .sc (.int .i64 0), .sc (.int .i64 0), .sc (.int .i64 0)], .cells 45 [.sc (.int .i64 n_), .sc (.int .i64 n__1), .sc (.int .i64 0), .sc (.int .i64 0), .sc (.int .i64 0)]], none⟩
noncomputable def f7.l0d (k : Nat) (t : ByteArray) (ln : Nat) (lf : Nat → PV) (n_ n__1 n__2 : Int) : Option PV := loopAt Tryd.prog cf ext hint k 7 [1, 1, 1, 1, 0, 1, 0] ⟨[.sc (.string t), .top, .ptr 0 0, .top, .ptr 1 0, .lst 1 ln lf, .top, .top, .top, .top, .top, .top, .top, .top, .top, .top, .sc (.int .i64 3), .top, .top, .top, .top, .top, .top, .top, .top, .top, .top, .top, .top, .top, .top, .top, .top, .top, .top, .top, .top, .top, .top, .top, .top, .top, .top, .top, .top, .top, .top, .top, .top, .top, .top, .top, .top, .top], [.cells 23 [.sc (.int .i64 0), .sc (.int .i64 0), .sc (.int .i64 0), .sc (.int .i64 0), .sc (.int .i64 0)], .cells 45 [.sc (.int .i64 n_), .sc (.int .i64 n__1), .sc (.int .i64 n__2), .sc (.int .i64 0), .sc (.int .i64 0)]], none⟩
noncomputable def f7.l0e (k : Nat) (t : ByteArray) (ln : Nat) (lf : Nat → PV) (n_ n__1 n__2 n__3 : Int) : Option PV := loopAt Tryd.prog cf ext hint k 7 [1, 1, 1, 1, 0, 1, 0] ⟨[.sc (.string t), .top, .ptr 0 0, .top, .ptr 1 0, .lst 1 ln lf, .top, .top, .top, .top, .top, .top, .top, .top, .top, .top, .sc (.int .i64 4), .top, .top, .top, .top, .top, .top, .top, .top, .top, .top, .top, .top, .top, .top, .top, .top, .top, .top, .top, .top, .top, .top, .top, .top, .top, .top, .top, .top, .top, .top, .top, .top, .top, .top, .top, .top, .top], [.cells 23 [.sc (.int .i64 0), .sc (.int .i64 0), .sc (.int .i64 0), .sc (.int .i64 0), .sc (.int .i64 0)], .cells 45 [.sc (.int .i64 n_), .sc (.int .i64 n__1), .sc (.int .i64 n__2), .sc (.int .i64 n__3), .sc (.int .i64 0)]], none⟩
noncomputable def f7.l0f (k : Nat) (t : ByteArray) (ln : Nat) (lf : Nat → PV) (n_ n__1 n__2 n__3 n__4 : Int) : Option PV := loopAt Tryd.prog cf ext hint k 7 [1, 1, 1, 1, 0, 1, 0] ⟨[.sc (.string t), .top, .ptr 0 0, .top, .ptr 1 0, .lst 1 ln lf, .top, .top, .top, .top, .top, .top, .top, .top, .top, .top, .sc (.int .i64 5), .top, .top, .top, .top, .top, .top, .top, .top, .top, .top, .top, .top, .top, .top, .top, .top, .top, .top, .top, .top, .top, .top, .top, .top, .top, .top, .top, .top, .top, .top, .top, .top, .top, .top, .top, .top, .top], [.cells 23 [.sc (.int .i64 0), .sc (.int .i64 0), .sc (.int .i64 0), .sc (.int .i64 0), .sc (.int .i64 0)], .cells 45 [.sc (.int .i64 n_), .sc (.int .i64 n__1), .sc (.int .i64 n__2), .sc (.int .i64 n__3), .sc (.int .i64 n__4)]], none⟩
theorem f7_eq (k : Nat) (t : ByteArray) : D 7 [.sc (.string t)] =
  (D 20 [.sc (.string t), .sc (.string (⟨#[32]⟩ : ByteArray))]).bind fun r1 => if hasSh (.lst 1) r1 = true then
  if ((r1.len : Int) != 10) = true then
    some (.tup [.agg [.sc (.int .i64 0), .sc (.int .i64 0), .sc (.int .i64 0), .sc (.int .i64 0), .sc (.int .i64 0)], .sc (.bool false)])
  else
    f7.l0a k t r1.len r1.at
  else none :=
  (denI_eq k _ _).trans (by kernel_rfl)
theorem f7.l0a_eq (k : Nat) (t : ByteArray) (ln : Nat) (lf : Nat → PV) : f7.l0a k t ln lf =
  if 1 < (ln : Int) then
    if hasSh .str (lf 1) = true then
      (D 21 [.sc (.string ((lf 1).toStr))]).bind fun r2 => if hasSh (.tup [(.int .i64), .bool]) r2 = true then
      Option.bind (α := PV) (
        if (!((cel 1 r2.parts).toBool)) = true then
          some (.sc (.bool true))
        else
          some (.sc (.bool (decide (((cel 0 r2.parts).toInt) < 0))))) fun r3 =>
      Option.bind (α := PV) (
        if r3.toBool = true then
          some (.sc (.bool true))
        else
          some (.sc (.bool ((((cel 0 r2.parts).toInt).tmod 10000) != 0)))) fun r4 =>
      if r4.toBool = true then
        some (.tup [.agg [.sc (.int .i64 0), .sc (.int .i64 0), .sc (.int .i64 0), .sc (.int .i64 0), .sc (.int .i64 0)], .sc (.bool false)])
      else
        f7.l0b k t ln lf (IntKind.i64.wrap (((cel 0 r2.parts).toInt).tdiv 10000))
      else none
    else none
  else none :=
  (loopAt_eq _ _ _ _).trans (by kernel_rfl)
theorem f7.l0b_eq (k : Nat) (t : ByteArray) (ln : Nat) (lf : Nat → PV) (n_ : Int) : f7.l0b k t ln lf n_ =
  if 3 < (ln : Int) then
    if hasSh .str (lf 3) = true then
      (D 21 [.sc (.string ((lf 3).toStr))]).bind fun r5 => if hasSh (.tup [(.int .i64), .bool]) r5 = true then
      Option.bind (α := PV) (
        if (!((cel 1 r5.parts).toBool)) = true then
          some (.sc (.bool true))
        else
          some (.sc (.bool (decide (((cel 0 r5.parts).toInt) < 0))))) fun r6 =>
      Option.bind (α := PV) (
        if r6.toBool = true then
          some (.sc (.bool true))
        else
          some (.sc (.bool ((((cel 0 r5.parts).toInt).tmod 10000) != 0)))) fun r7 =>
      if r7.toBool = true then
        some (.tup [.agg [.sc (.int .i64 0), .sc (.int .i64 0), .sc (.int .i64 0), .sc (.int .i64 0), .sc (.int .i64 0)], .sc (.bool false)])
      else
        f7.l0c k t ln lf n_ (IntKind.i64.wrap (((cel 0 r5.parts).toInt).tdiv 10000))
      else none
    else none
  else none :=
  (loopAt_eq _ _ _ _).trans (by kernel_rfl)
theorem f7.l0c_eq (k : Nat) (t : ByteArray) (ln : Nat) (lf : Nat → PV) (n_ n__1 : Int) : f7.l0c k t ln lf n_ n__1 =
  if 5 < (ln : Int) then
    if hasSh .str (lf 5) = true then
      (D 21 [.sc (.string ((lf 5).toStr))]).bind fun r8 => if hasSh (.tup [(.int .i64), .bool]) r8 = true then
      Option.bind (α := PV) (
        if (!((cel 1 r8.parts).toBool)) = true then
          some (.sc (.bool true))
        else
          some (.sc (.bool (decide (((cel 0 r8.parts).toInt) < 0))))) fun r9 =>
      Option.bind (α := PV) (
        if r9.toBool = true then
          some (.sc (.bool true))
        else
          some (.sc (.bool ((((cel 0 r8.parts).toInt).tmod 10000) != 0)))) fun r10 =>
      if r10.toBool = true then
        some (.tup [.agg [.sc (.int .i64 0), .sc (.int .i64 0), .sc (.int .i64 0), .sc (.int .i64 0), .sc (.int .i64 0)], .sc (.bool false)])
      else
        f7.l0d k t ln lf n_ n__1 (IntKind.i64.wrap (((cel 0 r8.parts).toInt).tdiv 10000))
      else none
    else none
  else none :=
  (loopAt_eq _ _ _ _).trans (by kernel_rfl)
theorem f7.l0d_eq (k : Nat) (t : ByteArray) (ln : Nat) (lf : Nat → PV) (n_ n__1 n__2 : Int) : f7.l0d k t ln lf n_ n__1 n__2 =
  if 7 < (ln : Int) then
    if hasSh .str (lf 7) = true then
      (D 21 [.sc (.string ((lf 7).toStr))]).bind fun r11 => if hasSh (.tup [(.int .i64), .bool]) r11 = true then
      Option.bind (α := PV) (
        if (!((cel 1 r11.parts).toBool)) = true then
          some (.sc (.bool true))
        else
          some (.sc (.bool (decide (((cel 0 r11.parts).toInt) < 0))))) fun r12 =>
      Option.bind (α := PV) (
        if r12.toBool = true then
          some (.sc (.bool true))
        else
          some (.sc (.bool ((((cel 0 r11.parts).toInt).tmod 10000) != 0)))) fun r13 =>
      if r13.toBool = true then
        some (.tup [.agg [.sc (.int .i64 0), .sc (.int .i64 0), .sc (.int .i64 0), .sc (.int .i64 0), .sc (.int .i64 0)], .sc (.bool false)])
      else
        f7.l0e k t ln lf n_ n__1 n__2 (IntKind.i64.wrap (((cel 0 r11.parts).toInt).tdiv 10000))
      else none
    else none
  else none :=
  (loopAt_eq _ _ _ _).trans (by kernel_rfl)
theorem f7.l0e_eq (k : Nat) (t : ByteArray) (ln : Nat) (lf : Nat → PV) (n_ n__1 n__2 n__3 : Int) : f7.l0e k t ln lf n_ n__1 n__2 n__3 =
  if 9 < (ln : Int) then
    if hasSh .str (lf 9) = true then
      (D 21 [.sc (.string ((lf 9).toStr))]).bind fun r14 => if hasSh (.tup [(.int .i64), .bool]) r14 = true then
      Option.bind (α := PV) (
        if (!((cel 1 r14.parts).toBool)) = true then
          some (.sc (.bool true))
        else
          some (.sc (.bool (decide (((cel 0 r14.parts).toInt) < 0))))) fun r15 =>
      Option.bind (α := PV) (
        if r15.toBool = true then
          some (.sc (.bool true))
        else
          some (.sc (.bool ((((cel 0 r14.parts).toInt).tmod 10000) != 0)))) fun r16 =>
      if r16.toBool = true then
        some (.tup [.agg [.sc (.int .i64 0), .sc (.int .i64 0), .sc (.int .i64 0), .sc (.int .i64 0), .sc (.int .i64 0)], .sc (.bool false)])
      else
        f7.l0f k t ln lf n_ n__1 n__2 n__3 (IntKind.i64.wrap (((cel 0 r14.parts).toInt).tdiv 10000))
      else none
    else none
  else none :=
  (loopAt_eq _ _ _ _).trans (by kernel_rfl)
theorem f7.l0f_eq (k : Nat) (t : ByteArray) (ln : Nat) (lf : Nat → PV) (n_ n__1 n__2 n__3 n__4 : Int) : f7.l0f k t ln lf n_ n__1 n__2 n__3 n__4 =
  (D 22 [.agg [.sc (.int .i64 n_), .sc (.int .i64 n__1), .sc (.int .i64 n__2), .sc (.int .i64 n__3), .sc (.int .i64 n__4)]]).bind fun r17 => if hasSh (.agg [(.int .i64), (.int .i64), (.int .i64), (.int .i64), (.int .i64)]) r17 = true then
  (D 6 [.agg [.sc (.int .i64 ((cel 0 r17.cells).toInt)), .sc (.int .i64 ((cel 1 r17.cells).toInt)), .sc (.int .i64 ((cel 2 r17.cells).toInt)), .sc (.int .i64 ((cel 3 r17.cells).toInt)), .sc (.int .i64 ((cel 4 r17.cells).toInt))]]).bind fun r18 => if hasSh .str r18 = true then
  if (!(r18.toStr.toList == t.toList)) = true then
    some (.tup [.agg [.sc (.int .i64 0), .sc (.int .i64 0), .sc (.int .i64 0), .sc (.int .i64 0), .sc (.int .i64 0)], .sc (.bool false)])
  else
    some (.tup [.agg [.sc (.int .i64 ((cel 0 r17.cells).toInt)), .sc (.int .i64 ((cel 1 r17.cells).toInt)), .sc (.int .i64 ((cel 2 r17.cells).toInt)), .sc (.int .i64 ((cel 3 r17.cells).toInt)), .sc (.int .i64 ((cel 4 r17.cells).toInt))], .sc (.bool true)])
  else none
  else none :=
  (loopAt_eq _ _ _ _).trans (by kernel_rfl)
-- oculus/meter.Text
noncomputable def f6.l0a (k : Nat) (t9n : Nat) (t9f : Nat → PV) (t10 n_ n__1 n__2 n__3 n__4 : Int) : Option PV := loopAt Tryd.prog cf ext hint k 6 [1, 1, 1, 0, 1, 0] ⟨[.top, .top, .top, .nils, .ptr 0 0, .top, .top, .top, .top, .lst 1 t9n t9f, .sc (.int .i64 t10), .sc (.int .i64 0), .top, .top, .top, .top, .top, .top, .top, .top, .top, .top, .top, .top, .top, .top, .top, .top, .top, .top, .top, .top, .top, .top, .top, .top, .top, .top], [.cells 45 [.sc (.int .i64 n_), .sc (.int .i64 n__1), .sc (.int .i64 n__2), .sc (.int .i64 n__3), .sc (.int .i64 n__4)]], none⟩
noncomputable def f6.l0b (k : Nat) (t9n : Nat) (t9f : Nat → PV) (t10 : Int) (out : List PV) (n_ n__1 n__2 n__3 n__4 : Int) : Option PV := loopAt Tryd.prog cf ext hint k 6 [1, 1, 1, 0, 1, 0] ⟨[.top, .top, .top, .buf 0 0, .ptr 1 0, .top, .top, .top, .top, .lst 1 t9n t9f, .sc (.int .i64 t10), .sc (.int .i64 1), .top, .top, .top, .top, .top, .top, .top, .top, .top, .top, .top, .top, .top, .top, .top, .top, .top, .top, .top, .top, .top, .top, .top, .top, .top, .top], [.buf 9 0 out, .cells 45 [.sc (.int .i64 n_), .sc (.int .i64 n__1), .sc (.int .i64 n__2), .sc (.int .i64 n__3), .sc (.int .i64 n__4)]], none⟩
noncomputable def f6.l0c (k : Nat) (t9n : Nat) (t9f : Nat → PV) (t10 : Int) (out : List PV) (n_ n__1 n__2 n__3 n__4 : Int) : Option PV := loopAt Tryd.prog cf ext hint k 6 [1, 1, 1, 0, 1, 0] ⟨[.top, .top, .top, .buf 0 0, .ptr 1 0, .top, .top, .top, .top, .lst 1 t9n t9f, .sc (.int .i64 t10), .sc (.int .i64 2), .top, .top, .top, .top, .top, .top, .top, .top, .top, .top, .top, .top, .top, .top, .top, .top, .top, .top, .top, .top, .top, .top, .top, .top, .top, .top], [.buf 9 0 out, .cells 45 [.sc (.int .i64 n_), .sc (.int .i64 n__1), .sc (.int .i64 n__2), .sc (.int .i64 n__3), .sc (.int .i64 n__4)]], none⟩
noncomputable def f6.l0d (k : Nat) (t9n : Nat) (t9f : Nat → PV) (t10 : Int) (out : List PV) (n_ n__1 n__2 n__3 n__4 : Int) : Option PV := loopAt Tryd.prog cf ext hint k 6 [1, 1, 1, 0, 1, 0] ⟨[.top, .top, .top, .buf 0 0, .ptr 1 0, .top, .top, .top, .top, .lst 1 t9n t9f, .sc (.int .i64 t10), .sc (.int .i64 3), .top, .top, .top, .top, .top, .top, .top, .top, .top, .top, .top, .top, .top, .top, .top, .top, .top, .top, .top, .top, .top, .top, .top, .top, .top, .top], [.buf 9 0 out, .cells 45 [.sc (.int .i64 n_), .sc (.int .i64 n__1), .sc (.int .i64 n__2), .sc (.int .i64 n__3), .sc (.int .i64 n__4)]], none⟩
noncomputable def f6.l0e (k : Nat) (t9n : Nat) (t9f : Nat → PV) (t10 : Int) (out : List PV) (n_ n__1 n__2 n__3 n__4 : Int) : Option PV := loopAt Tryd.prog cf ext hint k 6 [1, 1, 1, 0, 1, 0] ⟨[.top, .top, .top, .buf 0 0, .ptr 1 0, .top, .top, .top, .top, .lst 1 t9n t9f, .sc (.int .i64 t10), .sc (.int .i64 4), .top, .top, .top, .top, .top, .top, .top, .top, .top, .top, .top, .top, .top, .top, .top, .top, .top, .top, .top, .top, .top, .top, .top, .top, .top, .top], [.buf 9 0 out, .cells 45 [.sc (.int .i64 n_), .sc (.int .i64 n__1), .sc (.int .i64 n__2), .sc (.int .i64 n__3), .sc (.int .i64 n__4)]], none⟩
noncomputable def f6.l0f (k : Nat) (t9n : Nat) (t9f : Nat → PV) (t10 : Int) (out : List PV) (n_ n__1 n__2 n__3 n__4 : Int) : Option PV := loopAt Tryd.prog cf ext hint k 6 [1, 1, 1, 0, 1, 0] ⟨[.top, .top, .top, .buf 0 0, .ptr 1 0, .top, .top, .top, .top, .lst 1 t9n t9f, .sc (.int .i64 t10), .sc (.int .i64 5), .top, .top, .top, .top, .top, .top, .top, .top, .top, .top, .top, .top, .top, .top, .top, .top, .top, .top, .top, .top, .top, .top, .top, .top, .top, .top], [.buf 9 0 out, .cells 45 [.sc (.int .i64 n_), .sc (.int .i64 n__1), .sc (.int .i64 n__2), .sc (.int .i64 n__3), .sc (.int .i64 n__4)]], none⟩
theorem f6_eq (k : Nat) (c c_1 c_2 c_3 c_4 : Int) : D 6 [.agg [.sc (.int .i64 c), .sc (.int .i64 c_1), .sc (.int .i64 c_2), .sc (.int .i64 c_3), .sc (.int .i64 c_4)]] =
  (D 16 [.agg [.sc (.int .i64 c), .sc (.int .i64 c_1), .sc (.int .i64 c_2), .sc (.int .i64 c_3), .sc (.int .i64 c_4)]]).bind fun r1 => if hasSh (.agg [(.int .i64), (.int .i64), (.int .i64), (.int .i64), (.int .i64)]) r1 = true then
  (D 17 [.sc (.string (⟨#[101, 118, 97, 108, 115, 32, 114, 101, 97, 100, 115, 32, 99, 104, 97, 115, 101, 115, 32, 101, 100, 103, 101, 115, 32, 118, 105, 115, 105, 116, 115]⟩ : ByteArray))]).bind fun r2 => if hasSh (.lst 1) r2 = true then
  f6.l0a k r2.len r2.at (r2.len : Int) ((cel 0 r1.cells).toInt) ((cel 1 r1.cells).toInt) ((cel 2 r1.cells).toInt) ((cel 3 r1.cells).toInt) ((cel 4 r1.cells).toInt)
  else none
  else none :=
  (denI_eq k _ _).trans (by kernel_rfl)
theorem f6.l0a_eq (k : Nat) (t9n : Nat) (t9f : Nat → PV) (t10 n_ n__1 n__2 n__3 n__4 : Int) : f6.l0a k t9n t9f t10 n_ n__1 n__2 n__3 n__4 =
  if decide ((0 : Int) < t10) = true then
    if 0 < (t9n : Int) then
      if hasSh .str (t9f 0) = true then
        Option.bind (α := PV) (
          if decide (n_ < 0) = true then
            some (.sc (.bool true))
          else
            some (.sc (.bool (decide (n_ > 1000000000))))) fun r3 =>
        if r3.toBool = true then
          some (.sc (.string (⟨#[]⟩ : ByteArray)))
        else
          (D 18 [.sc (.int .i64 (IntKind.i64.wrap (n_ * 10000)))]).bind fun r4 => if hasSh .str r4 = true then
          if ([.sc (.string ((t9f 0).toStr)), .sc (.string r4.toStr)] : List PV).length * 16 ≤ 140737488355328 ∧ ([.sc (.string ((t9f 0).toStr)), .sc (.string r4.toStr)] : List PV).length ≤ 140737488355328 then
            f6.l0b k t9n t9f t10 ([.sc (.string ((t9f 0).toStr)), .sc (.string r4.toStr)] : List PV) n_ n__1 n__2 n__3 n__4
          else none
          else none
      else none
    else none
  else
    (D 19 [.lst 1 0 (fun _ => .top), .sc (.string (⟨#[32]⟩ : ByteArray))]).bind fun r5 => if hasSh .str r5 = true then
    some (.sc (.string r5.toStr))
    else none :=
  (loopAt_eq _ _ _ _).trans (by kernel_rfl)
theorem f6.l0b_eq (k : Nat) (t9n : Nat) (t9f : Nat → PV) (t10 : Int) (out : List PV) (n_ n__1 n__2 n__3 n__4 : Int) : f6.l0b k t9n t9f t10 out n_ n__1 n__2 n__3 n__4 =
  if decide ((1 : Int) < t10) = true then
    if 1 < (t9n : Int) then
      if hasSh .str (t9f 1) = true then
        Option.bind (α := PV) (
          if decide (n__1 < 0) = true then
            some (.sc (.bool true))
          else
            some (.sc (.bool (decide (n__1 > 1000000000))))) fun r6 =>
        if r6.toBool = true then
          some (.sc (.string (⟨#[]⟩ : ByteArray)))
        else
          (D 18 [.sc (.int .i64 (IntKind.i64.wrap (n__1 * 10000)))]).bind fun r7 => if hasSh .str r7 = true then
          if (out.length + ([.sc (.string ((t9f 1).toStr)), .sc (.string r7.toStr)] : List PV).length) * 16 ≤ 140737488355328 ∧ out.length + ([.sc (.string ((t9f 1).toStr)), .sc (.string r7.toStr)] : List PV).length ≤ 140737488355328 then
            f6.l0c k t9n t9f t10 (out ++ ([.sc (.string ((t9f 1).toStr)), .sc (.string r7.toStr)] : List PV)) n_ n__1 n__2 n__3 n__4
          else none
          else none
      else none
    else none
  else
    (D 19 [frozen 1 out, .sc (.string (⟨#[32]⟩ : ByteArray))]).bind fun r8 => if hasSh .str r8 = true then
    some (.sc (.string r8.toStr))
    else none :=
  (loopAt_eq _ _ _ _).trans (by kernel_rfl)
theorem f6.l0c_eq (k : Nat) (t9n : Nat) (t9f : Nat → PV) (t10 : Int) (out : List PV) (n_ n__1 n__2 n__3 n__4 : Int) : f6.l0c k t9n t9f t10 out n_ n__1 n__2 n__3 n__4 =
  if decide ((2 : Int) < t10) = true then
    if 2 < (t9n : Int) then
      if hasSh .str (t9f 2) = true then
        Option.bind (α := PV) (
          if decide (n__2 < 0) = true then
            some (.sc (.bool true))
          else
            some (.sc (.bool (decide (n__2 > 1000000000))))) fun r9 =>
        if r9.toBool = true then
          some (.sc (.string (⟨#[]⟩ : ByteArray)))
        else
          (D 18 [.sc (.int .i64 (IntKind.i64.wrap (n__2 * 10000)))]).bind fun r10 => if hasSh .str r10 = true then
          if (out.length + ([.sc (.string ((t9f 2).toStr)), .sc (.string r10.toStr)] : List PV).length) * 16 ≤ 140737488355328 ∧ out.length + ([.sc (.string ((t9f 2).toStr)), .sc (.string r10.toStr)] : List PV).length ≤ 140737488355328 then
            f6.l0d k t9n t9f t10 (out ++ ([.sc (.string ((t9f 2).toStr)), .sc (.string r10.toStr)] : List PV)) n_ n__1 n__2 n__3 n__4
          else none
          else none
      else none
    else none
  else
    (D 19 [frozen 1 out, .sc (.string (⟨#[32]⟩ : ByteArray))]).bind fun r11 => if hasSh .str r11 = true then
    some (.sc (.string r11.toStr))
    else none :=
  (loopAt_eq _ _ _ _).trans (by kernel_rfl)
theorem f6.l0d_eq (k : Nat) (t9n : Nat) (t9f : Nat → PV) (t10 : Int) (out : List PV) (n_ n__1 n__2 n__3 n__4 : Int) : f6.l0d k t9n t9f t10 out n_ n__1 n__2 n__3 n__4 =
  if decide ((3 : Int) < t10) = true then
    if 3 < (t9n : Int) then
      if hasSh .str (t9f 3) = true then
        Option.bind (α := PV) (
          if decide (n__3 < 0) = true then
            some (.sc (.bool true))
          else
            some (.sc (.bool (decide (n__3 > 1000000000))))) fun r12 =>
        if r12.toBool = true then
          some (.sc (.string (⟨#[]⟩ : ByteArray)))
        else
          (D 18 [.sc (.int .i64 (IntKind.i64.wrap (n__3 * 10000)))]).bind fun r13 => if hasSh .str r13 = true then
          if (out.length + ([.sc (.string ((t9f 3).toStr)), .sc (.string r13.toStr)] : List PV).length) * 16 ≤ 140737488355328 ∧ out.length + ([.sc (.string ((t9f 3).toStr)), .sc (.string r13.toStr)] : List PV).length ≤ 140737488355328 then
            f6.l0e k t9n t9f t10 (out ++ ([.sc (.string ((t9f 3).toStr)), .sc (.string r13.toStr)] : List PV)) n_ n__1 n__2 n__3 n__4
          else none
          else none
      else none
    else none
  else
    (D 19 [frozen 1 out, .sc (.string (⟨#[32]⟩ : ByteArray))]).bind fun r14 => if hasSh .str r14 = true then
    some (.sc (.string r14.toStr))
    else none :=
  (loopAt_eq _ _ _ _).trans (by kernel_rfl)
theorem f6.l0e_eq (k : Nat) (t9n : Nat) (t9f : Nat → PV) (t10 : Int) (out : List PV) (n_ n__1 n__2 n__3 n__4 : Int) : f6.l0e k t9n t9f t10 out n_ n__1 n__2 n__3 n__4 =
  if decide ((4 : Int) < t10) = true then
    if 4 < (t9n : Int) then
      if hasSh .str (t9f 4) = true then
        Option.bind (α := PV) (
          if decide (n__4 < 0) = true then
            some (.sc (.bool true))
          else
            some (.sc (.bool (decide (n__4 > 1000000000))))) fun r15 =>
        if r15.toBool = true then
          some (.sc (.string (⟨#[]⟩ : ByteArray)))
        else
          (D 18 [.sc (.int .i64 (IntKind.i64.wrap (n__4 * 10000)))]).bind fun r16 => if hasSh .str r16 = true then
          if (out.length + ([.sc (.string ((t9f 4).toStr)), .sc (.string r16.toStr)] : List PV).length) * 16 ≤ 140737488355328 ∧ out.length + ([.sc (.string ((t9f 4).toStr)), .sc (.string r16.toStr)] : List PV).length ≤ 140737488355328 then
            f6.l0f k t9n t9f t10 (out ++ ([.sc (.string ((t9f 4).toStr)), .sc (.string r16.toStr)] : List PV)) n_ n__1 n__2 n__3 n__4
          else none
          else none
      else none
    else none
  else
    (D 19 [frozen 1 out, .sc (.string (⟨#[32]⟩ : ByteArray))]).bind fun r17 => if hasSh .str r17 = true then
    some (.sc (.string r17.toStr))
    else none :=
  (loopAt_eq _ _ _ _).trans (by kernel_rfl)
theorem f6.l0f_eq (k : Nat) (t9n : Nat) (t9f : Nat → PV) (t10 : Int) (out : List PV) (n_ n__1 n__2 n__3 n__4 : Int) : f6.l0f k t9n t9f t10 out n_ n__1 n__2 n__3 n__4 =
  if decide ((5 : Int) < t10) = true then
    if 5 < (t9n : Int) then
      if hasSh .str (t9f 5) = true then none else none
    else none
  else
    (D 19 [frozen 1 out, .sc (.string (⟨#[32]⟩ : ByteArray))]).bind fun r18 => if hasSh .str r18 = true then
    some (.sc (.string r18.toStr))
    else none :=
  (loopAt_eq _ _ _ _).trans (by kernel_rfl)
-- oculus/meter.counts
theorem f16_eq (k : Nat) (c c_1 c_2 c_3 c_4 : Int) : D 16 [.agg [.sc (.int .i64 c), .sc (.int .i64 c_1), .sc (.int .i64 c_2), .sc (.int .i64 c_3), .sc (.int .i64 c_4)]] =
  some (.agg [.sc (.int .i64 c), .sc (.int .i64 c_1), .sc (.int .i64 c_2), .sc (.int .i64 c_3), .sc (.int .i64 c_4)]) :=
  (denI_eq k _ _).trans (by kernel_rfl)
-- oculus/digits.Text
noncomputable def f18.j0a (k : Nat) (x_ : Int) (out : ByteArray) : Option PV := gateK k (placeAt Tryd.prog cf ext hint k 18 [1, 1, 1, 1]) ⟨[.sc (.int .i64 x_), .top, .top, .sc (.string out), .top, .top, .top, .top, .top, .top, .top, .top, .top, .top, .top, .top, .top, .top, .top, .top, .top, .top, .top, .top, .top, .top, .top, .top, .top, .top, .top, .top, .top, .top, .top, .top, .top, .top], [], none⟩
theorem f18_eq (k : Nat) (x_ : Int) : D 18 [.sc (.int .i64 x_)] =
  (D 32 [.sc (.int .i64 x_)]).bind fun r1 => if hasSh .bool r1 = true then
  if (!r1.toBool) = true then
    some (.sc (.string (⟨#[]⟩ : ByteArray)))
  else
    (D 34 [.sc (.int .i64 x_)]).bind fun r2 => if hasSh (.int .i64) r2 = true then
    (D 33 [.sc (.int .i64 r2.toInt), .sc (.int .i64 10)]).bind fun r3 => if hasSh .str r3 = true then
    Option.bind (α := PV) (
      if decide (x_ < 0) = true then
        some (.sc (.bool (decide (x_ > (-10000)))))
      else
        some (.sc (.bool false))) fun r4 =>
    if r4.toBool = true then
      if 1 + r3.toStr.size ≤ 9223372036854775807 then
        f18.j0a k x_ ((⟨#[45]⟩ : ByteArray) ++ r3.toStr)
      else none
    else
      f18.j0a k x_ r3.toStr
    else none
    else none
  else none :=
  (denI_eq k _ _).trans (by kernel_rfl)
theorem f18.j0a_eq (k : Nat) (x_ : Int) (out : ByteArray) : f18.j0a k x_ out =
  if ((x_.tmod 10000) == 0) = true then
    some (.sc (.string out))
  else
    (D 33 [.sc (.int .i64 (IntKind.i64.wrap ((10000 : Int) + (if IntKind.i64.wrap (0 - (x_.tmod 10000)) > x_.tmod 10000 then IntKind.i64.wrap (0 - (x_.tmod 10000)) else x_.tmod 10000)))), .sc (.int .i64 10)]).bind fun r5 => if hasSh .str r5 = true then
    if 0 ≤ (r5.toStr.size : Int) then
      if (r5.toStr.size : Int) ≤ (r5.toStr.size : Int) then
        if 1 ≤ (r5.toStr.size : Int) then
          if out.size + 1 ≤ 9223372036854775807 then
            (D 35 [.sc (.string (r5.toStr.extract 1 (r5.toStr.size : Int).toNat)), .sc (.string (⟨#[48]⟩ : ByteArray))]).bind fun r6 => if hasSh .str r6 = true then
            if (out ++ (⟨#[46]⟩ : ByteArray)).size + r6.toStr.size ≤ 9223372036854775807 then
              some (.sc (.string ((out ++ (⟨#[46]⟩ : ByteArray)) ++ r6.toStr)))
            else none
            else none
          else none
        else none
      else none
    else none
    else none :=
  (gateK_open _ _ _).trans (by kernel_rfl)
-- oculus/dec.May
theorem f32_eq (k : Nat) (x_ : Int) : D 32 [.sc (.int .i64 x_)] =
  some (.sc (.bool (x_ != (-9223372036854775808)))) :=
  (denI_eq k _ _).trans (by kernel_rfl)
-- oculus/dec.Units
theorem f34_eq (k : Nat) (x_ : Int) : D 34 [.sc (.int .i64 x_)] =
  (D 32 [.sc (.int .i64 x_)]).bind fun r1 => if hasSh .bool r1 = true then
  if (!r1.toBool) = true then
    some (.sc (.int .i64 0))
  else
    some (.sc (.int .i64 (IntKind.i64.wrap (x_.tdiv 10000))))
  else none :=
  (denI_eq k _ _).trans (by kernel_rfl)
-- oculus/digits.Parse
theorem f21_eq (k : Nat) (t : ByteArray) : D 21 [.sc (.string t)] =
  (D 40 [.sc (.string t)]).bind fun r1 => if hasSh (.tup [(.int .i64), .bool]) r1 = true then
  Option.bind (α := PV) (
    if (!((cel 1 r1.parts).toBool)) = true then
      some (.sc (.bool true))
    else
      Option.bind (α := PV) (
        (D 18 [.sc (.int .i64 ((cel 0 r1.parts).toInt))]).bind fun r2 => if hasSh .str r2 = true then
        some (.sc (.bool (!(r2.toStr.toList == t.toList))))
        else none) fun r3 =>
      some (.sc (.bool r3.toBool))) fun r4 =>
  if r4.toBool = true then
    some (.tup [.sc (.int .i64 0), .sc (.bool false)])
  else
    some (.tup [.sc (.int .i64 ((cel 0 r1.parts).toInt)), .sc (.bool true)])
  else none :=
  (denI_eq k _ _).trans (by kernel_rfl)
-- oculus/digits.Read
noncomputable def f40.l0a (k : Nat) (minus : Bool) (x_ y t53 t54 : Int) : Option PV := loopAt Tryd.prog cf ext hint k 40 [1, 1, 1, 1, 1, 1, 1, 0, 1, 0] ⟨[.top, .top, .top, .top, .top, .sc (.bool minus), .top, .top, .top, .sc (.int .i64 x_), .top, .sc (.int .i64 y), .top, .top, .top, .top, .top, .top, .top, .top, .top, .top, .top, .top, .top, .top, .top, .top, .top, .top, .top, .top, .top, .top, .top, .top, .top, .top, .top, .top, .top, .top, .top, .top, .top, .top, .top, .top, .top, .top, .top, .top, .top, .sc (.int .i64 t53), .sc (.int .i64 t54), .top, .top, .top, .top, .top, .top, .top, .top, .top, .top], [], none⟩
theorem f40_eq (k : Nat) (t : ByteArray) : D 40 [.sc (.string t)] =
  (D 57 [.sc (.string t), .sc (.string (⟨#[45]⟩ : ByteArray))]).bind fun r1 => if hasSh (.tup [.str, .bool]) r1 = true then
  if decide ((t.size : Int) > 40) = true then
    some (.tup [.sc (.int .i64 0), .sc (.bool false)])
  else
    (D 58 [.sc (.string ((cel 0 r1.parts).toStr)), .sc (.string (⟨#[46]⟩ : ByteArray))]).bind fun r2 => if hasSh (.tup [.str, .str, .bool]) r2 = true then
    (D 59 [.sc (.string ((cel 0 r2.parts).toStr))]).bind fun r3 => if hasSh (.tup [(.int .i64), .bool]) r3 = true then
    (D 59 [.sc (.string ((cel 1 r2.parts).toStr))]).bind fun r4 => if hasSh (.tup [(.int .i64), .bool]) r4 = true then
    Option.bind (α := PV) (
      if (!((cel 1 r3.parts).toBool)) = true then
        some (.sc (.bool true))
      else
        Option.bind (α := PV) (
          Option.bind (α := PV) (
            if (cel 2 r2.parts).toBool = true then
              Option.bind (α := PV) (
                Option.bind (α := PV) (
                  Option.bind (α := PV) (
                    if (!((cel 1 r4.parts).toBool)) = true then
                      some (.sc (.bool true))
                    else
                      some (.sc (.bool (decide ((((cel 1 r2.parts).toStr).size : Int) > 4))))) fun r5 =>
                  some (.sc (.bool r5.toBool))) fun r6 =>
                some (.sc (.bool r6.toBool))) fun r7 =>
              some (.sc (.bool r7.toBool))
            else
              some (.sc (.bool false))) fun r8 =>
          some (.sc (.bool r8.toBool))) fun r9 =>
        some (.sc (.bool r9.toBool))) fun r10 =>
    if r10.toBool = true then
      some (.tup [.sc (.int .i64 0), .sc (.bool false)])
    else
      f40.l0a k ((cel 1 r1.parts).toBool) ((cel 0 r3.parts).toInt) ((cel 0 r4.parts).toInt) (IntKind.i64.wrap ((4 : Int) - (((cel 1 r2.parts).toStr).size : Int))) 0
    else none
    else none
    else none
  else none :=
  (denI_eq k _ _).trans (by kernel_rfl)
theorem f40.l0a_eq (k : Nat) (minus : Bool) (x_ y t53 t54 : Int) : f40.l0a k minus x_ y t53 t54 =
  if decide (t54 < t53) = true then
    f40.l0a k minus x_ (IntKind.i64.wrap (y * 10)) t53 (IntKind.i64.wrap (t54 + 1))
  else
    (D 60 [.sc (.int .i64 x_), .sc (.int .i64 y), .sc (.bool minus)]).bind fun r11 => if hasSh (.tup [(.int .i64), .bool]) r11 = true then
    some (.tup [.sc (.int .i64 ((cel 0 r11.parts).toInt)), .sc (.bool ((cel 1 r11.parts).toBool))])
    else none :=
  (loopAt_eq _ _ _ _).trans (by kernel_rfl)
end EM
end Go.Den
