import Derived.Test.YtcfhllbobapaiaaDoorEFh
import Derived.KernelRfl
set_option maxRecDepth 100000
set_option linter.unusedVariables false
namespace Go.Den
open Go Go.Proofs
namespace EF
-- oculus/oculuslaw15.FoldTexts
theorem f10_eq (k : Nat) (ln : Nat) (lf : Nat → PV) : D 10 [.lst 3 ln lf] =
  (D 32 [.lst 3 ln lf, .sc (.int .i64 200)]).bind fun r1 => if hasSh .bool r1 = true then
  if (!r1.toBool) = true then
    (D 33 []).bind fun r2 => if hasSh .bool r2 = true then
    some (.sc (.bool r2.toBool))
    else none
  else
    (D 43 [.lst 3 ln lf]).bind fun r3 => if hasSh (.agg [(.int .i64), (.int .i64), .str]) r3 = true then
    (D 44 [.lst 3 ln lf]).bind fun r4 => if hasSh (.agg [(.int .i64), (.int .i64), .str]) r4 = true then
    Option.bind (α := PV) (
      if ((((cel 0 r3.cells).toInt) == ((cel 0 r4.cells).toInt)) && ((((cel 1 r3.cells).toInt) == ((cel 1 r4.cells).toInt)) && ((((cel 2 r3.cells).toStr).toList == ((cel 2 r4.cells).toStr).toList) && true))) = true then
        Option.bind (α := PV) (
          (D 45 [.lst 3 ln lf]).bind fun r5 => if hasSh (.agg [(.int .i64), (.int .i64), .str]) r5 = true then
          Option.bind (α := PV) (
            Option.bind (α := PV) (
              (D 46 [.lst 3 ln lf]).bind fun r6 => if hasSh (.agg [(.int .i64), (.int .i64), .str]) r6 = true then
              some (.sc (.bool ((((cel 0 r5.cells).toInt) == ((cel 0 r6.cells).toInt)) && ((((cel 1 r5.cells).toInt) == ((cel 1 r6.cells).toInt)) && ((((cel 2 r5.cells).toStr).toList == ((cel 2 r6.cells).toStr).toList) && true)))))
              else none) fun r7 =>
            some (.sc (.bool r7.toBool))) fun r8 =>
          some (.sc (.bool r8.toBool))
          else none) fun r9 =>
        some (.sc (.bool r9.toBool))
      else
        some (.sc (.bool false))) fun r10 =>
    Option.bind (α := PV) (
      if r10.toBool = true then
        (D 33 []).bind fun r11 => if hasSh .bool r11 = true then
        some (.sc (.bool r11.toBool))
        else none
      else
        some (.sc (.bool false))) fun r12 =>
    some (.sc (.bool r12.toBool))
    else none
    else none
  else none :=
  (denI_eq k _ _).trans (by kernel_rfl)
-- oculus/oculusref15.Right
noncomputable def f32.l0a (k : Nat) (ln : Nat) (lf : Nat → PV) (i : Int) : Option PV := loopAt Tryd.prog cf ext hint k 32 [1, 1, 0, 1, 0] ⟨[.lst 3 ln lf, .top, .top, .top, .top, .sc (.int .i64 i), .top, .top, .top, .top, .top, .top, .top, .top, .top, .top, .top, .top, .top, .top, .top, .top], [], none⟩
theorem f32_eq (k : Nat) (ln : Nat) (lf : Nat → PV) (most : Int) : D 32 [.lst 3 ln lf, .sc (.int .i64 most)] =
  if decide ((ln : Int) > most) = true then
    some (.sc (.bool false))
  else
    f32.l0a k ln lf 0 :=
  (denI_eq k _ _).trans (by kernel_rfl)
theorem f32.l0a_eq (k : Nat) (ln : Nat) (lf : Nat → PV) (i : Int) : f32.l0a k ln lf i =
  if decide (i < (ln : Int)) = true then
    if 0 ≤ i then
      if i < (ln : Int) then
        if hasSh (.agg [(.int .i64), (.int .i64), .str]) (lf i.toNat) = true then
          (D 82 [.agg [.sc (.int .i64 ((cel 0 (lf i.toNat).cells).toInt)), .sc (.int .i64 ((cel 1 (lf i.toNat).cells).toInt)), .sc (.string ((cel 2 (lf i.toNat).cells).toStr))]]).bind fun r1 => if hasSh .bool r1 = true then
          if (!r1.toBool) = true then
            some (.sc (.bool false))
          else
            f32.l0a k ln lf (IntKind.i64.wrap (i + 1))
          else none
        else none
      else none
    else none
  else
    some (.sc (.bool true)) :=
  (loopAt_eq _ _ _ _).trans (by kernel_rfl)
-- oculus/oculusref12.May
theorem f82_eq (k : Nat) (v_ v__1 : Int) (v__2 : ByteArray) : D 82 [.agg [.sc (.int .i64 v_), .sc (.int .i64 v__1), .sc (.string v__2)]] =
  Option.bind (α := PV) (
    if (v_ == 0) = true then
      some (.sc (.bool (v__2.toList == (⟨#[]⟩ : ByteArray).toList)))
    else
      some (.sc (.bool false))) fun r1 =>
  Option.bind (α := PV) (
    if r1.toBool = true then
      some (.sc (.bool (v__1 == 0)))
    else
      some (.sc (.bool false))) fun r2 =>
  Option.bind (α := PV) (
    if r2.toBool = true then
      some (.sc (.bool true))
    else
      Option.bind (α := PV) (
        Option.bind (α := PV) (
          Option.bind (α := PV) (
            Option.bind (α := PV) (
              if (v_ == 1) = true then
                some (.sc (.bool (v__2.toList == (⟨#[]⟩ : ByteArray).toList)))
              else
                some (.sc (.bool false))) fun r3 =>
            Option.bind (α := PV) (
              Option.bind (α := PV) (
                if r3.toBool = true then
                  Option.bind (α := PV) (
                    Option.bind (α := PV) (
                      (D 19 [.sc (.int .i64 v__1)]).bind fun r4 => if hasSh .bool r4 = true then
                      some (.sc (.bool r4.toBool))
                      else none) fun r5 =>
                    some (.sc (.bool r5.toBool))) fun r6 =>
                  some (.sc (.bool r6.toBool))
                else
                  some (.sc (.bool false))) fun r7 =>
              some (.sc (.bool r7.toBool))) fun r8 =>
            some (.sc (.bool r8.toBool))) fun r9 =>
          some (.sc (.bool r9.toBool))) fun r10 =>
        some (.sc (.bool r10.toBool))) fun r11 =>
      some (.sc (.bool r11.toBool))) fun r12 =>
  Option.bind (α := PV) (
    if r12.toBool = true then
      some (.sc (.bool true))
    else
      Option.bind (α := PV) (
        Option.bind (α := PV) (
          Option.bind (α := PV) (
            Option.bind (α := PV) (
              if (v_ == 2) = true then
                some (.sc (.bool (v__1 == 0)))
              else
                some (.sc (.bool false))) fun r13 =>
            Option.bind (α := PV) (
              Option.bind (α := PV) (
                if r13.toBool = true then
                  some (.sc (.bool (decide ((v__2.size : Int) ≤ 256))))
                else
                  some (.sc (.bool false))) fun r14 =>
              some (.sc (.bool r14.toBool))) fun r15 =>
            some (.sc (.bool r15.toBool))) fun r16 =>
          some (.sc (.bool r16.toBool))) fun r17 =>
        some (.sc (.bool r17.toBool))) fun r18 =>
      some (.sc (.bool r18.toBool))) fun r19 =>
  Option.bind (α := PV) (
    if r19.toBool = true then
      some (.sc (.bool true))
    else
      Option.bind (α := PV) (
        Option.bind (α := PV) (
          Option.bind (α := PV) (
            Option.bind (α := PV) (
              if (v_ == 3) = true then
                some (.sc (.bool (v__2.toList == (⟨#[]⟩ : ByteArray).toList)))
              else
                some (.sc (.bool false))) fun r20 =>
            Option.bind (α := PV) (
              Option.bind (α := PV) (
                if r20.toBool = true then
                  Option.bind (α := PV) (
                    Option.bind (α := PV) (
                      Option.bind (α := PV) (
                        Option.bind (α := PV) (
                          if (v__1 == 0) = true then
                            some (.sc (.bool true))
                          else
                            some (.sc (.bool (v__1 == 1)))) fun r21 =>
                        some (.sc (.bool r21.toBool))) fun r22 =>
                      some (.sc (.bool r22.toBool))) fun r23 =>
                    some (.sc (.bool r23.toBool))) fun r24 =>
                  some (.sc (.bool r24.toBool))
                else
                  some (.sc (.bool false))) fun r25 =>
              some (.sc (.bool r25.toBool))) fun r26 =>
            some (.sc (.bool r26.toBool))) fun r27 =>
          some (.sc (.bool r27.toBool))) fun r28 =>
        some (.sc (.bool r28.toBool))) fun r29 =>
      some (.sc (.bool r29.toBool))) fun r30 =>
  Option.bind (α := PV) (
    if r30.toBool = true then
      some (.sc (.bool true))
    else
      Option.bind (α := PV) (
        Option.bind (α := PV) (
          Option.bind (α := PV) (
            Option.bind (α := PV) (
              if (v_ == 4) = true then
                some (.sc (.bool (v__2.toList == (⟨#[]⟩ : ByteArray).toList)))
              else
                some (.sc (.bool false))) fun r31 =>
            Option.bind (α := PV) (
              Option.bind (α := PV) (
                if r31.toBool = true then
                  some (.sc (.bool (decide (v__1 ≥ 1))))
                else
                  some (.sc (.bool false))) fun r32 =>
              Option.bind (α := PV) (
                Option.bind (α := PV) (
                  if r32.toBool = true then
                    some (.sc (.bool (decide (v__1 ≤ 7))))
                  else
                    some (.sc (.bool false))) fun r33 =>
                some (.sc (.bool r33.toBool))) fun r34 =>
              some (.sc (.bool r34.toBool))) fun r35 =>
            some (.sc (.bool r35.toBool))) fun r36 =>
          some (.sc (.bool r36.toBool))) fun r37 =>
        some (.sc (.bool r37.toBool))) fun r38 =>
      some (.sc (.bool r38.toBool))) fun r39 =>
  some (.sc (.bool r39.toBool)) :=
  (denI_eq k _ _).trans (by kernel_rfl)
-- oculus/oculusref08.May
theorem f19_eq (k : Nat) (x_ : Int) : D 19 [.sc (.int .i64 x_)] =
  some (.sc (.bool (decide (x_ ≥ (-9223372036854775807))))) :=
  (denI_eq k _ _).trans (by kernel_rfl)
-- oculus/oculuslaw15.alive
theorem f33_eq (k : Nat)  : D 33 [] =
  (D 75 [.sc (.int .i64 20000)]).bind fun r1 => if hasSh (.agg [(.int .i64), (.int .i64), .str]) r1 = true then
  (D 83 [.sc (.string (⟨#[120]⟩ : ByteArray))]).bind fun r2 => if hasSh (.agg [(.int .i64), (.int .i64), .str]) r2 = true then
  (D 84 [.sc (.bool true)]).bind fun r3 => if hasSh (.agg [(.int .i64), (.int .i64), .str]) r3 = true then
  (D 75 [.sc (.int .i64 (-50000))]).bind fun r4 => if hasSh (.agg [(.int .i64), (.int .i64), .str]) r4 = true then
  (D 42 [frozen 3 ([.agg [.sc (.int .i64 ((cel 0 r1.cells).toInt)), .sc (.int .i64 ((cel 1 r1.cells).toInt)), .sc (.string ((cel 2 r1.cells).toStr))], .agg [.sc (.int .i64 ((cel 0 r2.cells).toInt)), .sc (.int .i64 ((cel 1 r2.cells).toInt)), .sc (.string ((cel 2 r2.cells).toStr))], .agg [.sc (.int .i64 ((cel 0 r3.cells).toInt)), .sc (.int .i64 ((cel 1 r3.cells).toInt)), .sc (.string ((cel 2 r3.cells).toStr))], .agg [.sc (.int .i64 ((cel 0 r4.cells).toInt)), .sc (.int .i64 ((cel 1 r4.cells).toInt)), .sc (.string ((cel 2 r4.cells).toStr))], .agg [.sc (.int .i64 0), .sc (.int .i64 0), .sc (.string (⟨#[]⟩ : ByteArray))]] : List PV)]).bind fun r5 => if hasSh (.agg [(.int .i64), (.int .i64), .str]) r5 = true then
  (D 75 [.sc (.int .i64 (-30000))]).bind fun r6 => if hasSh (.agg [(.int .i64), (.int .i64), .str]) r6 = true then
  Option.bind (α := PV) (
    if ((((cel 0 r5.cells).toInt) == ((cel 0 r6.cells).toInt)) && ((((cel 1 r5.cells).toInt) == ((cel 1 r6.cells).toInt)) && ((((cel 2 r5.cells).toStr).toList == ((cel 2 r6.cells).toStr).toList) && true))) = true then
      Option.bind (α := PV) (
        (D 85 [frozen 3 ([.agg [.sc (.int .i64 ((cel 0 r1.cells).toInt)), .sc (.int .i64 ((cel 1 r1.cells).toInt)), .sc (.string ((cel 2 r1.cells).toStr))], .agg [.sc (.int .i64 ((cel 0 r2.cells).toInt)), .sc (.int .i64 ((cel 1 r2.cells).toInt)), .sc (.string ((cel 2 r2.cells).toStr))], .agg [.sc (.int .i64 ((cel 0 r3.cells).toInt)), .sc (.int .i64 ((cel 1 r3.cells).toInt)), .sc (.string ((cel 2 r3.cells).toStr))], .agg [.sc (.int .i64 ((cel 0 r4.cells).toInt)), .sc (.int .i64 ((cel 1 r4.cells).toInt)), .sc (.string ((cel 2 r4.cells).toStr))], .agg [.sc (.int .i64 0), .sc (.int .i64 0), .sc (.string (⟨#[]⟩ : ByteArray))]] : List PV)]).bind fun r7 => if hasSh (.agg [(.int .i64), (.int .i64), .str]) r7 = true then
        Option.bind (α := PV) (
          (D 75 [.sc (.int .i64 (-100000))]).bind fun r8 => if hasSh (.agg [(.int .i64), (.int .i64), .str]) r8 = true then
          some (.sc (.bool ((((cel 0 r7.cells).toInt) == ((cel 0 r8.cells).toInt)) && ((((cel 1 r7.cells).toInt) == ((cel 1 r8.cells).toInt)) && ((((cel 2 r7.cells).toStr).toList == ((cel 2 r8.cells).toStr).toList) && true)))))
          else none) fun r9 =>
        some (.sc (.bool r9.toBool))
        else none) fun r10 =>
      some (.sc (.bool r10.toBool))
    else
      some (.sc (.bool false))) fun r11 =>
  Option.bind (α := PV) (
    if r11.toBool = true then
      Option.bind (α := PV) (
        (D 86 [frozen 3 ([.agg [.sc (.int .i64 ((cel 0 r1.cells).toInt)), .sc (.int .i64 ((cel 1 r1.cells).toInt)), .sc (.string ((cel 2 r1.cells).toStr))], .agg [.sc (.int .i64 ((cel 0 r2.cells).toInt)), .sc (.int .i64 ((cel 1 r2.cells).toInt)), .sc (.string ((cel 2 r2.cells).toStr))], .agg [.sc (.int .i64 ((cel 0 r3.cells).toInt)), .sc (.int .i64 ((cel 1 r3.cells).toInt)), .sc (.string ((cel 2 r3.cells).toStr))], .agg [.sc (.int .i64 ((cel 0 r4.cells).toInt)), .sc (.int .i64 ((cel 1 r4.cells).toInt)), .sc (.string ((cel 2 r4.cells).toStr))], .agg [.sc (.int .i64 0), .sc (.int .i64 0), .sc (.string (⟨#[]⟩ : ByteArray))]] : List PV)]).bind fun r12 => if hasSh (.agg [(.int .i64), (.int .i64), .str]) r12 = true then
        Option.bind (α := PV) (
          (D 75 [.sc (.int .i64 290000)]).bind fun r13 => if hasSh (.agg [(.int .i64), (.int .i64), .str]) r13 = true then
          some (.sc (.bool ((((cel 0 r12.cells).toInt) == ((cel 0 r13.cells).toInt)) && ((((cel 1 r12.cells).toInt) == ((cel 1 r13.cells).toInt)) && ((((cel 2 r12.cells).toStr).toList == ((cel 2 r13.cells).toStr).toList) && true)))))
          else none) fun r14 =>
        some (.sc (.bool r14.toBool))
        else none) fun r15 =>
      some (.sc (.bool r15.toBool))
    else
      some (.sc (.bool false))) fun r16 =>
  Option.bind (α := PV) (
    if r16.toBool = true then
      Option.bind (α := PV) (
        (D 37 [frozen 3 ([.agg [.sc (.int .i64 ((cel 0 r1.cells).toInt)), .sc (.int .i64 ((cel 1 r1.cells).toInt)), .sc (.string ((cel 2 r1.cells).toStr))], .agg [.sc (.int .i64 ((cel 0 r2.cells).toInt)), .sc (.int .i64 ((cel 1 r2.cells).toInt)), .sc (.string ((cel 2 r2.cells).toStr))], .agg [.sc (.int .i64 ((cel 0 r3.cells).toInt)), .sc (.int .i64 ((cel 1 r3.cells).toInt)), .sc (.string ((cel 2 r3.cells).toStr))], .agg [.sc (.int .i64 ((cel 0 r4.cells).toInt)), .sc (.int .i64 ((cel 1 r4.cells).toInt)), .sc (.string ((cel 2 r4.cells).toStr))], .agg [.sc (.int .i64 0), .sc (.int .i64 0), .sc (.string (⟨#[]⟩ : ByteArray))]] : List PV)]).bind fun r17 => if hasSh (.agg [(.int .i64), (.int .i64), .str]) r17 = true then
        Option.bind (α := PV) (
          (D 75 [.sc (.int .i64 (-15000))]).bind fun r18 => if hasSh (.agg [(.int .i64), (.int .i64), .str]) r18 = true then
          some (.sc (.bool ((((cel 0 r17.cells).toInt) == ((cel 0 r18.cells).toInt)) && ((((cel 1 r17.cells).toInt) == ((cel 1 r18.cells).toInt)) && ((((cel 2 r17.cells).toStr).toList == ((cel 2 r18.cells).toStr).toList) && true)))))
          else none) fun r19 =>
        some (.sc (.bool r19.toBool))
        else none) fun r20 =>
      some (.sc (.bool r20.toBool))
    else
      some (.sc (.bool false))) fun r21 =>
  Option.bind (α := PV) (
    if r21.toBool = true then
      Option.bind (α := PV) (
        (D 39 [frozen 3 ([.agg [.sc (.int .i64 ((cel 0 r1.cells).toInt)), .sc (.int .i64 ((cel 1 r1.cells).toInt)), .sc (.string ((cel 2 r1.cells).toStr))], .agg [.sc (.int .i64 ((cel 0 r2.cells).toInt)), .sc (.int .i64 ((cel 1 r2.cells).toInt)), .sc (.string ((cel 2 r2.cells).toStr))], .agg [.sc (.int .i64 ((cel 0 r3.cells).toInt)), .sc (.int .i64 ((cel 1 r3.cells).toInt)), .sc (.string ((cel 2 r3.cells).toStr))], .agg [.sc (.int .i64 ((cel 0 r4.cells).toInt)), .sc (.int .i64 ((cel 1 r4.cells).toInt)), .sc (.string ((cel 2 r4.cells).toStr))], .agg [.sc (.int .i64 0), .sc (.int .i64 0), .sc (.string (⟨#[]⟩ : ByteArray))]] : List PV), .sc (.int .i64 2)]).bind fun r22 => if hasSh (.int .i64) r22 = true then
        some (.sc (.bool (r22.toInt == 4)))
        else none) fun r23 =>
      some (.sc (.bool r23.toBool))
    else
      some (.sc (.bool false))) fun r24 =>
  Option.bind (α := PV) (
    if r24.toBool = true then
      Option.bind (α := PV) (
        (D 43 [frozen 3 ([.agg [.sc (.int .i64 ((cel 0 r1.cells).toInt)), .sc (.int .i64 ((cel 1 r1.cells).toInt)), .sc (.string ((cel 2 r1.cells).toStr))], .agg [.sc (.int .i64 ((cel 0 r2.cells).toInt)), .sc (.int .i64 ((cel 1 r2.cells).toInt)), .sc (.string ((cel 2 r2.cells).toStr))], .agg [.sc (.int .i64 ((cel 0 r3.cells).toInt)), .sc (.int .i64 ((cel 1 r3.cells).toInt)), .sc (.string ((cel 2 r3.cells).toStr))], .agg [.sc (.int .i64 ((cel 0 r4.cells).toInt)), .sc (.int .i64 ((cel 1 r4.cells).toInt)), .sc (.string ((cel 2 r4.cells).toStr))], .agg [.sc (.int .i64 0), .sc (.int .i64 0), .sc (.string (⟨#[]⟩ : ByteArray))]] : List PV)]).bind fun r25 => if hasSh (.agg [(.int .i64), (.int .i64), .str]) r25 = true then
        Option.bind (α := PV) (
          (D 83 [.sc (.string (⟨#[50, 120, 84, 82, 85, 69, 45, 53]⟩ : ByteArray))]).bind fun r26 => if hasSh (.agg [(.int .i64), (.int .i64), .str]) r26 = true then
          some (.sc (.bool ((((cel 0 r25.cells).toInt) == ((cel 0 r26.cells).toInt)) && ((((cel 1 r25.cells).toInt) == ((cel 1 r26.cells).toInt)) && ((((cel 2 r25.cells).toStr).toList == ((cel 2 r26.cells).toStr).toList) && true)))))
          else none) fun r27 =>
        some (.sc (.bool r27.toBool))
        else none) fun r28 =>
      some (.sc (.bool r28.toBool))
    else
      some (.sc (.bool false))) fun r29 =>
  if r29.toBool = true then
    (D 75 [.sc (.int .i64 1)]).bind fun r30 => if hasSh (.agg [(.int .i64), (.int .i64), .str]) r30 = true then
    (D 76 [.sc (.int .i64 5)]).bind fun r31 => if hasSh (.agg [(.int .i64), (.int .i64), .str]) r31 = true then
    Option.bind (α := PV) (
      (D 42 [frozen 3 ([.agg [.sc (.int .i64 ((cel 0 r30.cells).toInt)), .sc (.int .i64 ((cel 1 r30.cells).toInt)), .sc (.string ((cel 2 r30.cells).toStr))], .agg [.sc (.int .i64 ((cel 0 r31.cells).toInt)), .sc (.int .i64 ((cel 1 r31.cells).toInt)), .sc (.string ((cel 2 r31.cells).toStr))]] : List PV)]).bind fun r32 => if hasSh (.agg [(.int .i64), (.int .i64), .str]) r32 = true then
      Option.bind (α := PV) (
        (D 76 [.sc (.int .i64 5)]).bind fun r33 => if hasSh (.agg [(.int .i64), (.int .i64), .str]) r33 = true then
        some (.sc (.bool ((((cel 0 r32.cells).toInt) == ((cel 0 r33.cells).toInt)) && ((((cel 1 r32.cells).toInt) == ((cel 1 r33.cells).toInt)) && ((((cel 2 r32.cells).toStr).toList == ((cel 2 r33.cells).toStr).toList) && true)))))
        else none) fun r34 =>
      some (.sc (.bool r34.toBool))
      else none) fun r35 =>
    some (.sc (.bool r35.toBool))
    else none
    else none
  else
    some (.sc (.bool false))
  else none
  else none
  else none
  else none
  else none
  else none :=
  (denI_eq k _ _).trans (by kernel_rfl)
-- oculus/fold.Mean
theorem f37_eq (k : Nat) (ln : Nat) (lf : Nat → PV) : D 37 [.lst 3 ln lf] =
  (D 42 [.lst 3 ln lf]).bind fun r1 => if hasSh (.agg [(.int .i64), (.int .i64), .str]) r1 = true then
  (D 39 [.lst 3 ln lf, .sc (.int .i64 1)]).bind fun r2 => if hasSh (.int .i64) r2 = true then
  (D 92 [.lst 3 ln lf]).bind fun r3 => if hasSh (.agg [(.int .i64), (.int .i64), .str]) r3 = true then
  if (((cel 0 r3.cells).toInt) == 4) = true then
    some (.agg [.sc (.int .i64 ((cel 0 r1.cells).toInt)), .sc (.int .i64 ((cel 1 r1.cells).toInt)), .sc (.string ((cel 2 r1.cells).toStr))])
  else
    if (r2.toInt == 0) = true then
      (D 76 [.sc (.int .i64 1)]).bind fun r4 => if hasSh (.agg [(.int .i64), (.int .i64), .str]) r4 = true then
      some (.agg [.sc (.int .i64 ((cel 0 r4.cells).toInt)), .sc (.int .i64 ((cel 1 r4.cells).toInt)), .sc (.string ((cel 2 r4.cells).toStr))])
      else none
    else
      if (((cel 0 r1.cells).toInt) == 4) = true then
        some (.agg [.sc (.int .i64 ((cel 0 r1.cells).toInt)), .sc (.int .i64 ((cel 1 r1.cells).toInt)), .sc (.string ((cel 2 r1.cells).toStr))])
      else
        (D 93 [.sc (.int .i64 ((cel 1 r1.cells).toInt)), .sc (.int .i64 1), .sc (.int .i64 r2.toInt)]).bind fun r5 => if hasSh (.tup [(.int .i64), .bool]) r5 = true then
        (D 94 [.sc (.int .i64 ((cel 0 r5.parts).toInt)), .sc (.bool ((cel 1 r5.parts).toBool))]).bind fun r6 => if hasSh (.agg [(.int .i64), (.int .i64), .str]) r6 = true then
        some (.agg [.sc (.int .i64 ((cel 0 r6.cells).toInt)), .sc (.int .i64 ((cel 1 r6.cells).toInt)), .sc (.string ((cel 2 r6.cells).toStr))])
        else none
        else none
  else none
  else none
  else none :=
  (denI_eq k _ _).trans (by kernel_rfl)
-- oculus/fold.Count
noncomputable def f39.l0a (k : Nat) (kind n_ : Int) (t8n : Nat) (t8f : Nat → PV) (t9 t10 : Int) : Option PV := loopAt Tryd.prog cf ext hint k 39 [1, 1, 0, 1, 0] ⟨[.top, .sc (.int .i64 kind), .top, .top, .top, .sc (.int .i64 n_), .top, .top, .lst 3 t8n t8f, .sc (.int .i64 t9), .sc (.int .i64 t10), .top, .top, .top, .top, .top, .top, .top, .top, .top, .top, .top, .top, .top, .top, .top, .top, .top, .top, .top, .top, .top, .top, .top, .top, .top, .top, .top, .top, .top, .top, .top, .top, .top, .top, .top], [], none⟩
theorem f39_eq (k : Nat) (ln : Nat) (lf : Nat → PV) (kind : Int) : D 39 [.lst 3 ln lf, .sc (.int .i64 kind)] =
  f39.l0a k kind 0 ln lf (ln : Int) 0 :=
  (denI_eq k _ _).trans (by kernel_rfl)
theorem f39.l0a_eq (k : Nat) (kind n_ : Int) (t8n : Nat) (t8f : Nat → PV) (t9 t10 : Int) : f39.l0a k kind n_ t8n t8f t9 t10 =
  if decide (t10 < t9) = true then
    if 0 ≤ t10 then
      if t10 < (t8n : Int) then
        if hasSh (.agg [(.int .i64), (.int .i64), .str]) (t8f t10.toNat) = true then
          if (kind == 1) = true then
            if (((cel 0 (t8f t10.toNat).cells).toInt) == 1) = true then
              f39.l0a k kind (IntKind.i64.wrap (n_ + 1)) t8n t8f t9 (IntKind.i64.wrap (t10 + 1))
            else
              f39.l0a k kind n_ t8n t8f t9 (IntKind.i64.wrap (t10 + 1))
          else
            if (kind == 0) = true then
              Option.bind (α := PV) (
                if (((cel 0 (t8f t10.toNat).cells).toInt) == 0) = true then
                  some (.sc (.bool true))
                else
                  Option.bind (α := PV) (
                    Option.bind (α := PV) (
                      Option.bind (α := PV) (
                        Option.bind (α := PV) (
                          if (((cel 0 (t8f t10.toNat).cells).toInt) == 2) = true then
                            some (.sc (.bool (((cel 2 (t8f t10.toNat).cells).toStr).toList == (⟨#[]⟩ : ByteArray).toList)))
                          else
                            some (.sc (.bool false))) fun r1 =>
                        some (.sc (.bool r1.toBool))) fun r2 =>
                      some (.sc (.bool r2.toBool))) fun r3 =>
                    some (.sc (.bool r3.toBool))) fun r4 =>
                  some (.sc (.bool r4.toBool))) fun r5 =>
              if r5.toBool = true then
                f39.l0a k kind (IntKind.i64.wrap (n_ + 1)) t8n t8f t9 (IntKind.i64.wrap (t10 + 1))
              else
                f39.l0a k kind n_ t8n t8f t9 (IntKind.i64.wrap (t10 + 1))
            else
              if (((cel 0 (t8f t10.toNat).cells).toInt) != 0) = true then
                f39.l0a k kind (IntKind.i64.wrap (n_ + 1)) t8n t8f t9 (IntKind.i64.wrap (t10 + 1))
              else
                f39.l0a k kind n_ t8n t8f t9 (IntKind.i64.wrap (t10 + 1))
        else none
      else none
    else none
  else
    some (.sc (.int .i64 n_)) :=
  (loopAt_eq _ _ _ _).trans (by kernel_rfl)
-- oculus/fold.Sum
theorem f42_eq (k : Nat) (ln : Nat) (lf : Nat → PV) : D 42 [.lst 3 ln lf] =
  (D 99 [.lst 3 ln lf, .sc (.int .i64 0), .sc (.func (.func 100) #[] #[])]).bind fun r1 => if hasSh (.agg [(.int .i64), (.int .i64), .str]) r1 = true then
  some (.agg [.sc (.int .i64 ((cel 0 r1.cells).toInt)), .sc (.int .i64 ((cel 1 r1.cells).toInt)), .sc (.string ((cel 2 r1.cells).toStr))])
  else none :=
  (denI_eq k _ _).trans (by kernel_rfl)
-- oculus/fold.all
noncomputable def f99s100.l0a (k : Nat) (begin : Int) (t22n : Nat) (t22f : Nat → PV) (t23 t24 c0 c0_1 : Int) (c0_2 : ByteArray) : Option PV := loopAt Tryd.prog cf ext hint k 99 [1, 1, 1, 0, 1, 0] ⟨[.top, .sc (.int .i64 begin), .sc (.func (.func 100) #[] #[]), .top, .top, .top, .ptr 0 0, .top, .top, .top, .top, .top, .top, .top, .top, .top, .top, .top, .top, .top, .top, .top, .lst 1 t22n t22f, .sc (.int .i64 t23), .sc (.int .i64 t24), .top, .top, .top, .top, .top, .top, .top, .top, .top, .top, .top, .top, .top, .top, .top, .top, .top], [.cells 51 [.sc (.int .i64 c0), .sc (.int .i64 c0_1), .sc (.string c0_2)]], none⟩
theorem f99s100_eq (k : Nat) (ln : Nat) (lf : Nat → PV) (begin : Int) : D 99 [.lst 3 ln lf, .sc (.int .i64 begin), .sc (.func (.func 100) #[] #[])] =
  (D 137 [.lst 3 ln lf]).bind fun r1 => if hasSh (.tup [(.lst 1), (.agg [(.int .i64), (.int .i64), .str])]) r1 = true then
  if (((cel 0 (cel 1 r1.parts).cells).toInt) == 4) = true then
    some (.agg [.sc (.int .i64 ((cel 0 (cel 1 r1.parts).cells).toInt)), .sc (.int .i64 ((cel 1 (cel 1 r1.parts).cells).toInt)), .sc (.string ((cel 2 (cel 1 r1.parts).cells).toStr))])
  else
    f99s100.l0a k begin ((cel 0 r1.parts).len) ((cel 0 r1.parts).at) ((cel 0 r1.parts).len : Int) 0 0 0 (⟨#[]⟩ : ByteArray)
  else none :=
  (denI_eq k _ _).trans (by kernel_rfl)
theorem f99s100.l0a_eq (k : Nat) (begin : Int) (t22n : Nat) (t22f : Nat → PV) (t23 t24 c0 c0_1 : Int) (c0_2 : ByteArray) : f99s100.l0a k begin t22n t22f t23 t24 c0 c0_1 c0_2 =
  if decide (t24 < t23) = true then
    if 0 ≤ t24 then
      if t24 < (t22n : Int) then
        if hasSh (.int .i64) (t22f t24.toNat) = true then
          (D 100 [.sc (.int .i64 begin), .sc (.int .i64 ((t22f t24.toNat).toInt))]).bind fun r2 => if hasSh (.tup [(.int .i64), .bool]) r2 = true then
          if (!((cel 1 r2.parts).toBool)) = true then
            (D 76 [.sc (.int .i64 4)]).bind fun r3 => if hasSh (.agg [(.int .i64), (.int .i64), .str]) r3 = true then
            some (.agg [.sc (.int .i64 ((cel 0 r3.cells).toInt)), .sc (.int .i64 ((cel 1 r3.cells).toInt)), .sc (.string ((cel 2 r3.cells).toStr))])
            else none
          else
            f99s100.l0a k ((cel 0 r2.parts).toInt) t22n t22f t23 (IntKind.i64.wrap (t24 + 1)) c0 c0_1 c0_2
          else none
        else none
      else none
    else none
  else
    (D 75 [.sc (.int .i64 begin)]).bind fun r4 => if hasSh (.agg [(.int .i64), (.int .i64), .str]) r4 = true then
    some (.agg [.sc (.int .i64 ((cel 0 r4.cells).toInt)), .sc (.int .i64 ((cel 1 r4.cells).toInt)), .sc (.string ((cel 2 r4.cells).toStr))])
    else none :=
  (loopAt_eq _ _ _ _).trans (by kernel_rfl)
noncomputable def f99s138.l0a (k : Nat) (begin : Int) (t22n : Nat) (t22f : Nat → PV) (t23 t24 c0 c0_1 : Int) (c0_2 : ByteArray) : Option PV := loopAt Tryd.prog cf ext hint k 99 [1, 1, 1, 0, 1, 0] ⟨[.top, .sc (.int .i64 begin), .sc (.func (.func 138) #[] #[]), .top, .top, .top, .ptr 0 0, .top, .top, .top, .top, .top, .top, .top, .top, .top, .top, .top, .top, .top, .top, .top, .lst 1 t22n t22f, .sc (.int .i64 t23), .sc (.int .i64 t24), .top, .top, .top, .top, .top, .top, .top, .top, .top, .top, .top, .top, .top, .top, .top, .top, .top], [.cells 51 [.sc (.int .i64 c0), .sc (.int .i64 c0_1), .sc (.string c0_2)]], none⟩
theorem f99s138_eq (k : Nat) (ln : Nat) (lf : Nat → PV) (begin : Int) : D 99 [.lst 3 ln lf, .sc (.int .i64 begin), .sc (.func (.func 138) #[] #[])] =
  (D 137 [.lst 3 ln lf]).bind fun r1 => if hasSh (.tup [(.lst 1), (.agg [(.int .i64), (.int .i64), .str])]) r1 = true then
  if (((cel 0 (cel 1 r1.parts).cells).toInt) == 4) = true then
    some (.agg [.sc (.int .i64 ((cel 0 (cel 1 r1.parts).cells).toInt)), .sc (.int .i64 ((cel 1 (cel 1 r1.parts).cells).toInt)), .sc (.string ((cel 2 (cel 1 r1.parts).cells).toStr))])
  else
    f99s138.l0a k begin ((cel 0 r1.parts).len) ((cel 0 r1.parts).at) ((cel 0 r1.parts).len : Int) 0 0 0 (⟨#[]⟩ : ByteArray)
  else none :=
  (denI_eq k _ _).trans (by kernel_rfl)
theorem f99s138.l0a_eq (k : Nat) (begin : Int) (t22n : Nat) (t22f : Nat → PV) (t23 t24 c0 c0_1 : Int) (c0_2 : ByteArray) : f99s138.l0a k begin t22n t22f t23 t24 c0 c0_1 c0_2 =
  if decide (t24 < t23) = true then
    if 0 ≤ t24 then
      if t24 < (t22n : Int) then
        if hasSh (.int .i64) (t22f t24.toNat) = true then
          (D 138 [.sc (.int .i64 begin), .sc (.int .i64 ((t22f t24.toNat).toInt))]).bind fun r2 => if hasSh (.tup [(.int .i64), .bool]) r2 = true then
          if (!((cel 1 r2.parts).toBool)) = true then
            (D 76 [.sc (.int .i64 4)]).bind fun r3 => if hasSh (.agg [(.int .i64), (.int .i64), .str]) r3 = true then
            some (.agg [.sc (.int .i64 ((cel 0 r3.cells).toInt)), .sc (.int .i64 ((cel 1 r3.cells).toInt)), .sc (.string ((cel 2 r3.cells).toStr))])
            else none
          else
            f99s138.l0a k ((cel 0 r2.parts).toInt) t22n t22f t23 (IntKind.i64.wrap (t24 + 1)) c0 c0_1 c0_2
          else none
        else none
      else none
    else none
  else
    (D 75 [.sc (.int .i64 begin)]).bind fun r4 => if hasSh (.agg [(.int .i64), (.int .i64), .str]) r4 = true then
    some (.agg [.sc (.int .i64 ((cel 0 r4.cells).toInt)), .sc (.int .i64 ((cel 1 r4.cells).toInt)), .sc (.string ((cel 2 r4.cells).toStr))])
    else none :=
  (loopAt_eq _ _ _ _).trans (by kernel_rfl)
noncomputable def f99s139.l0a (k : Nat) (begin : Int) (t22n : Nat) (t22f : Nat → PV) (t23 t24 c0 c0_1 : Int) (c0_2 : ByteArray) : Option PV := loopAt Tryd.prog cf ext hint k 99 [1, 1, 1, 0, 1, 0] ⟨[.top, .sc (.int .i64 begin), .sc (.func (.func 139) #[] #[]), .top, .top, .top, .ptr 0 0, .top, .top, .top, .top, .top, .top, .top, .top, .top, .top, .top, .top, .top, .top, .top, .lst 1 t22n t22f, .sc (.int .i64 t23), .sc (.int .i64 t24), .top, .top, .top, .top, .top, .top, .top, .top, .top, .top, .top, .top, .top, .top, .top, .top, .top], [.cells 51 [.sc (.int .i64 c0), .sc (.int .i64 c0_1), .sc (.string c0_2)]], none⟩
theorem f99s139_eq (k : Nat) (ln : Nat) (lf : Nat → PV) (begin : Int) : D 99 [.lst 3 ln lf, .sc (.int .i64 begin), .sc (.func (.func 139) #[] #[])] =
  (D 137 [.lst 3 ln lf]).bind fun r1 => if hasSh (.tup [(.lst 1), (.agg [(.int .i64), (.int .i64), .str])]) r1 = true then
  if (((cel 0 (cel 1 r1.parts).cells).toInt) == 4) = true then
    some (.agg [.sc (.int .i64 ((cel 0 (cel 1 r1.parts).cells).toInt)), .sc (.int .i64 ((cel 1 (cel 1 r1.parts).cells).toInt)), .sc (.string ((cel 2 (cel 1 r1.parts).cells).toStr))])
  else
    f99s139.l0a k begin ((cel 0 r1.parts).len) ((cel 0 r1.parts).at) ((cel 0 r1.parts).len : Int) 0 0 0 (⟨#[]⟩ : ByteArray)
  else none :=
  (denI_eq k _ _).trans (by kernel_rfl)
theorem f99s139.l0a_eq (k : Nat) (begin : Int) (t22n : Nat) (t22f : Nat → PV) (t23 t24 c0 c0_1 : Int) (c0_2 : ByteArray) : f99s139.l0a k begin t22n t22f t23 t24 c0 c0_1 c0_2 =
  if decide (t24 < t23) = true then
    if 0 ≤ t24 then
      if t24 < (t22n : Int) then
        if hasSh (.int .i64) (t22f t24.toNat) = true then
          (D 139 [.sc (.int .i64 begin), .sc (.int .i64 ((t22f t24.toNat).toInt))]).bind fun r2 => if hasSh (.tup [(.int .i64), .bool]) r2 = true then
          if (!((cel 1 r2.parts).toBool)) = true then
            (D 76 [.sc (.int .i64 4)]).bind fun r3 => if hasSh (.agg [(.int .i64), (.int .i64), .str]) r3 = true then
            some (.agg [.sc (.int .i64 ((cel 0 r3.cells).toInt)), .sc (.int .i64 ((cel 1 r3.cells).toInt)), .sc (.string ((cel 2 r3.cells).toStr))])
            else none
          else
            f99s139.l0a k ((cel 0 r2.parts).toInt) t22n t22f t23 (IntKind.i64.wrap (t24 + 1)) c0 c0_1 c0_2
          else none
        else none
      else none
    else none
  else
    (D 75 [.sc (.int .i64 begin)]).bind fun r4 => if hasSh (.agg [(.int .i64), (.int .i64), .str]) r4 = true then
    some (.agg [.sc (.int .i64 ((cel 0 r4.cells).toInt)), .sc (.int .i64 ((cel 1 r4.cells).toInt)), .sc (.string ((cel 2 r4.cells).toStr))])
    else none :=
  (loopAt_eq _ _ _ _).trans (by kernel_rfl)
-- oculus/value.Num
theorem f75_eq (k : Nat) (x_ : Int) : D 75 [.sc (.int .i64 x_)] =
  (D 132 [.agg [.sc (.int .i64 1), .sc (.int .i64 x_), .sc (.string (⟨#[]⟩ : ByteArray))], .sc (.int .i64 4)]).bind fun r1 => if hasSh (.agg [(.int .i64), (.int .i64), .str]) r1 = true then
  some (.agg [.sc (.int .i64 ((cel 0 r1.cells).toInt)), .sc (.int .i64 ((cel 1 r1.cells).toInt)), .sc (.string ((cel 2 r1.cells).toStr))])
  else none :=
  (denI_eq k _ _).trans (by kernel_rfl)
-- oculus/value.made
theorem f132_eq (k : Nat) (v_ v__1 : Int) (v__2 : ByteArray) (code : Int) : D 132 [.agg [.sc (.int .i64 v_), .sc (.int .i64 v__1), .sc (.string v__2)], .sc (.int .i64 code)] =
  (D 167 [.agg [.sc (.int .i64 v_), .sc (.int .i64 v__1), .sc (.string v__2)]]).bind fun r1 => if hasSh .bool r1 = true then
  if (!r1.toBool) = true then
    some (.agg [.sc (.int .i64 4), .sc (.int .i64 code), .sc (.string (⟨#[]⟩ : ByteArray))])
  else
    some (.agg [.sc (.int .i64 v_), .sc (.int .i64 v__1), .sc (.string v__2)])
  else none :=
  (denI_eq k _ _).trans (by kernel_rfl)
-- oculus/value.May
theorem f167_eq (k : Nat) (v_ v__1 : Int) (v__2 : ByteArray) : D 167 [.agg [.sc (.int .i64 v_), .sc (.int .i64 v__1), .sc (.string v__2)]] =
  if (v_ == 0) = true then
    Option.bind (α := PV) (
      if (v__1 == 0) = true then
        some (.sc (.bool (v__2.toList == (⟨#[]⟩ : ByteArray).toList)))
      else
        some (.sc (.bool false))) fun r1 =>
    some (.sc (.bool r1.toBool))
  else
    if (v_ == 1) = true then
      (D 62 [.sc (.int .i64 v__1)]).bind fun r2 => if hasSh .bool r2 = true then
      Option.bind (α := PV) (
        if r2.toBool = true then
          some (.sc (.bool (v__2.toList == (⟨#[]⟩ : ByteArray).toList)))
        else
          some (.sc (.bool false))) fun r3 =>
      some (.sc (.bool r3.toBool))
      else none
    else
      if (v_ == 2) = true then
        Option.bind (α := PV) (
          if (v__1 == 0) = true then
            some (.sc (.bool (decide ((v__2.size : Int) ≤ 256))))
          else
            some (.sc (.bool false))) fun r4 =>
        some (.sc (.bool r4.toBool))
      else
        if (v_ == 3) = true then
          Option.bind (α := PV) (
            if (v__1 == 0) = true then
              some (.sc (.bool true))
            else
              some (.sc (.bool (v__1 == 1)))) fun r5 =>
          Option.bind (α := PV) (
            if r5.toBool = true then
              some (.sc (.bool (v__2.toList == (⟨#[]⟩ : ByteArray).toList)))
            else
              some (.sc (.bool false))) fun r6 =>
          some (.sc (.bool r6.toBool))
        else
          if (v_ == 4) = true then
            Option.bind (α := PV) (
              if decide (v__1 ≥ 1) = true then
                some (.sc (.bool (decide (v__1 ≤ 7))))
              else
                some (.sc (.bool false))) fun r7 =>
            Option.bind (α := PV) (
              if r7.toBool = true then
                some (.sc (.bool (v__2.toList == (⟨#[]⟩ : ByteArray).toList)))
              else
                some (.sc (.bool false))) fun r8 =>
            some (.sc (.bool r8.toBool))
          else
            some (.sc (.bool false)) :=
  (denI_eq k _ _).trans (by kernel_rfl)
-- oculus/dec.May
theorem f62_eq (k : Nat) (x_ : Int) : D 62 [.sc (.int .i64 x_)] =
  some (.sc (.bool (x_ != (-9223372036854775808)))) :=
  (denI_eq k _ _).trans (by kernel_rfl)
-- oculus/value.Bad
theorem f76_eq (k : Nat) (code : Int) : D 76 [.sc (.int .i64 code)] =
  (D 132 [.agg [.sc (.int .i64 4), .sc (.int .i64 code), .sc (.string (⟨#[]⟩ : ByteArray))], .sc (.int .i64 2)]).bind fun r1 => if hasSh (.agg [(.int .i64), (.int .i64), .str]) r1 = true then
  some (.agg [.sc (.int .i64 ((cel 0 r1.cells).toInt)), .sc (.int .i64 ((cel 1 r1.cells).toInt)), .sc (.string ((cel 2 r1.cells).toStr))])
  else none :=
  (denI_eq k _ _).trans (by kernel_rfl)
-- oculus/dec.Add
theorem f100_eq (k : Nat) (a b : Int) : D 100 [.sc (.int .i64 a), .sc (.int .i64 b)] =
  (D 62 [.sc (.int .i64 a)]).bind fun r1 => if hasSh .bool r1 = true then
  Option.bind (α := PV) (
    if (!r1.toBool) = true then
      some (.sc (.bool true))
    else
      Option.bind (α := PV) (
        (D 62 [.sc (.int .i64 b)]).bind fun r2 => if hasSh .bool r2 = true then
        some (.sc (.bool (!r2.toBool)))
        else none) fun r3 =>
      some (.sc (.bool r3.toBool))) fun r4 =>
  Option.bind (α := PV) (
    if r4.toBool = true then
      some (.sc (.bool true))
    else
      Option.bind (α := PV) (
        (D 62 [.sc (.int .i64 (IntKind.i64.wrap (a + b)))]).bind fun r5 => if hasSh .bool r5 = true then
        some (.sc (.bool (!r5.toBool)))
        else none) fun r6 =>
      some (.sc (.bool r6.toBool))) fun r7 =>
  Option.bind (α := PV) (
    if r7.toBool = true then
      some (.sc (.bool true))
    else
      Option.bind (α := PV) (
        Option.bind (α := PV) (
          Option.bind (α := PV) (
            if decide (a > 0) = true then
              some (.sc (.bool (decide (b > 0))))
            else
              some (.sc (.bool false))) fun r8 =>
          Option.bind (α := PV) (
            Option.bind (α := PV) (
              if r8.toBool = true then
                some (.sc (.bool (decide ((IntKind.i64.wrap (a + b)) < 0))))
              else
                some (.sc (.bool false))) fun r9 =>
            some (.sc (.bool r9.toBool))) fun r10 =>
          some (.sc (.bool r10.toBool))) fun r11 =>
        some (.sc (.bool r11.toBool))) fun r12 =>
      some (.sc (.bool r12.toBool))) fun r13 =>
  Option.bind (α := PV) (
    if r13.toBool = true then
      some (.sc (.bool true))
    else
      Option.bind (α := PV) (
        Option.bind (α := PV) (
          Option.bind (α := PV) (
            if decide (a < 0) = true then
              some (.sc (.bool (decide (b < 0))))
            else
              some (.sc (.bool false))) fun r14 =>
          Option.bind (α := PV) (
            Option.bind (α := PV) (
              if r14.toBool = true then
                some (.sc (.bool (decide ((IntKind.i64.wrap (a + b)) ≥ 0))))
              else
                some (.sc (.bool false))) fun r15 =>
            some (.sc (.bool r15.toBool))) fun r16 =>
          some (.sc (.bool r16.toBool))) fun r17 =>
        some (.sc (.bool r17.toBool))) fun r18 =>
      some (.sc (.bool r18.toBool))) fun r19 =>
  if r19.toBool = true then
    some (.tup [.sc (.int .i64 0), .sc (.bool false)])
  else
    some (.tup [.sc (.int .i64 (IntKind.i64.wrap (a + b))), .sc (.bool true)])
  else none :=
  (denI_eq k _ _).trans (by kernel_rfl)
end EF
end Go.Den
