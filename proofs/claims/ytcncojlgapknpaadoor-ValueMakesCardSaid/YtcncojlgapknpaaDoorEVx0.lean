import Derived.Test.YtcncojlgapknpaaDoorEVh
import Derived.KernelRfl
set_option maxRecDepth 100000
set_option linter.unusedVariables false
namespace Go.Den
open Go Go.Proofs
namespace EV
-- oculus/oculuslaw12.ValueMakes
theorem f5_eq (k : Nat) (v_ v__1 : Int) (v__2 : ByteArray) (is : Bool) (code : Int) : D 5 [.agg [.sc (.int .i64 v_), .sc (.int .i64 v__1), .sc (.string v__2)], .sc (.bool is), .sc (.int .i64 code)] =
  if decide ((v__2.size : Int) > 400) = true then
    (D 25 []).bind fun r1 => if hasSh .bool r1 = true then
    some (.sc (.bool r1.toBool))
    else none
  else
    (D 26 [.sc (.int .i64 v__1)]).bind fun r2 => if hasSh (.agg [(.int .i64), (.int .i64), .str]) r2 = true then
    (D 27 [.sc (.string v__2)]).bind fun r3 => if hasSh (.agg [(.int .i64), (.int .i64), .str]) r3 = true then
    (D 28 [.sc (.bool is)]).bind fun r4 => if hasSh (.agg [(.int .i64), (.int .i64), .str]) r4 = true then
    (D 29 [.sc (.int .i64 code)]).bind fun r5 => if hasSh (.agg [(.int .i64), (.int .i64), .str]) r5 = true then
    (D 30 [.sc (.int .i64 v__1), .sc (.bool is)]).bind fun r6 => if hasSh (.agg [(.int .i64), (.int .i64), .str]) r6 = true then
    (D 31 [.agg [.sc (.int .i64 v_), .sc (.int .i64 v__1), .sc (.string v__2)]]).bind fun r7 => if hasSh .bool r7 = true then
    (D 32 [.agg [.sc (.int .i64 v_), .sc (.int .i64 v__1), .sc (.string v__2)]]).bind fun r8 => if hasSh .bool r8 = true then
    Option.bind (α := PV) (
      if (!(r7.toBool == r8.toBool)) = true then
        some (.sc (.bool true))
      else
        Option.bind (α := PV) (
          Option.bind (α := PV) (
            Option.bind (α := PV) (
              (D 33 [.sc (.int .i64 v__1)]).bind fun r9 => if hasSh (.agg [(.int .i64), (.int .i64), .str]) r9 = true then
              some (.sc (.bool (!((((cel 0 r2.cells).toInt) == ((cel 0 r9.cells).toInt)) && ((((cel 1 r2.cells).toInt) == ((cel 1 r9.cells).toInt)) && ((((cel 2 r2.cells).toStr).toList == ((cel 2 r9.cells).toStr).toList) && true))))))
              else none) fun r10 =>
            some (.sc (.bool r10.toBool))) fun r11 =>
          some (.sc (.bool r11.toBool))) fun r12 =>
        some (.sc (.bool r12.toBool))) fun r13 =>
    Option.bind (α := PV) (
      if r13.toBool = true then
        some (.sc (.bool true))
      else
        Option.bind (α := PV) (
          Option.bind (α := PV) (
            Option.bind (α := PV) (
              (D 34 [.sc (.string v__2)]).bind fun r14 => if hasSh (.agg [(.int .i64), (.int .i64), .str]) r14 = true then
              some (.sc (.bool (!((((cel 0 r3.cells).toInt) == ((cel 0 r14.cells).toInt)) && ((((cel 1 r3.cells).toInt) == ((cel 1 r14.cells).toInt)) && ((((cel 2 r3.cells).toStr).toList == ((cel 2 r14.cells).toStr).toList) && true))))))
              else none) fun r15 =>
            some (.sc (.bool r15.toBool))) fun r16 =>
          some (.sc (.bool r16.toBool))) fun r17 =>
        some (.sc (.bool r17.toBool))) fun r18 =>
    Option.bind (α := PV) (
      if r18.toBool = true then
        some (.sc (.bool true))
      else
        Option.bind (α := PV) (
          Option.bind (α := PV) (
            (D 35 [.sc (.bool is)]).bind fun r19 => if hasSh (.agg [(.int .i64), (.int .i64), .str]) r19 = true then
            some (.sc (.bool (!((((cel 0 r4.cells).toInt) == ((cel 0 r19.cells).toInt)) && ((((cel 1 r4.cells).toInt) == ((cel 1 r19.cells).toInt)) && ((((cel 2 r4.cells).toStr).toList == ((cel 2 r19.cells).toStr).toList) && true))))))
            else none) fun r20 =>
          some (.sc (.bool r20.toBool))) fun r21 =>
        some (.sc (.bool r21.toBool))) fun r22 =>
    Option.bind (α := PV) (
      if r22.toBool = true then
        some (.sc (.bool true))
      else
        Option.bind (α := PV) (
          Option.bind (α := PV) (
            (D 36 [.sc (.int .i64 code)]).bind fun r23 => if hasSh (.agg [(.int .i64), (.int .i64), .str]) r23 = true then
            some (.sc (.bool (!((((cel 0 r5.cells).toInt) == ((cel 0 r23.cells).toInt)) && ((((cel 1 r5.cells).toInt) == ((cel 1 r23.cells).toInt)) && ((((cel 2 r5.cells).toStr).toList == ((cel 2 r23.cells).toStr).toList) && true))))))
            else none) fun r24 =>
          some (.sc (.bool r24.toBool))) fun r25 =>
        some (.sc (.bool r25.toBool))) fun r26 =>
    Option.bind (α := PV) (
      if r26.toBool = true then
        some (.sc (.bool true))
      else
        Option.bind (α := PV) (
          Option.bind (α := PV) (
            Option.bind (α := PV) (
              Option.bind (α := PV) (
                Option.bind (α := PV) (
                  (D 37 [.agg [.sc (.int .i64 v__1), .sc (.bool is)]]).bind fun r27 => if hasSh (.agg [(.int .i64), (.int .i64), .str]) r27 = true then
                  some (.sc (.bool (!((((cel 0 r6.cells).toInt) == ((cel 0 r27.cells).toInt)) && ((((cel 1 r6.cells).toInt) == ((cel 1 r27.cells).toInt)) && ((((cel 2 r6.cells).toStr).toList == ((cel 2 r27.cells).toStr).toList) && true))))))
                  else none) fun r28 =>
                some (.sc (.bool r28.toBool))) fun r29 =>
              some (.sc (.bool r29.toBool))) fun r30 =>
            some (.sc (.bool r30.toBool))) fun r31 =>
          some (.sc (.bool r31.toBool))) fun r32 =>
        some (.sc (.bool r32.toBool))) fun r33 =>
    if r33.toBool = true then
      some (.sc (.bool false))
    else
      (D 31 [.agg [.sc (.int .i64 ((cel 0 r2.cells).toInt)), .sc (.int .i64 ((cel 1 r2.cells).toInt)), .sc (.string ((cel 2 r2.cells).toStr))]]).bind fun r34 => if hasSh .bool r34 = true then
      Option.bind (α := PV) (
        if r34.toBool = true then
          Option.bind (α := PV) (
            (D 31 [.agg [.sc (.int .i64 ((cel 0 r3.cells).toInt)), .sc (.int .i64 ((cel 1 r3.cells).toInt)), .sc (.string ((cel 2 r3.cells).toStr))]]).bind fun r35 => if hasSh .bool r35 = true then
            some (.sc (.bool r35.toBool))
            else none) fun r36 =>
          some (.sc (.bool r36.toBool))
        else
          some (.sc (.bool false))) fun r37 =>
      Option.bind (α := PV) (
        if r37.toBool = true then
          Option.bind (α := PV) (
            (D 31 [.agg [.sc (.int .i64 ((cel 0 r4.cells).toInt)), .sc (.int .i64 ((cel 1 r4.cells).toInt)), .sc (.string ((cel 2 r4.cells).toStr))]]).bind fun r38 => if hasSh .bool r38 = true then
            some (.sc (.bool r38.toBool))
            else none) fun r39 =>
          some (.sc (.bool r39.toBool))
        else
          some (.sc (.bool false))) fun r40 =>
      Option.bind (α := PV) (
        if r40.toBool = true then
          Option.bind (α := PV) (
            (D 31 [.agg [.sc (.int .i64 ((cel 0 r5.cells).toInt)), .sc (.int .i64 ((cel 1 r5.cells).toInt)), .sc (.string ((cel 2 r5.cells).toStr))]]).bind fun r41 => if hasSh .bool r41 = true then
            some (.sc (.bool r41.toBool))
            else none) fun r42 =>
          some (.sc (.bool r42.toBool))
        else
          some (.sc (.bool false))) fun r43 =>
      Option.bind (α := PV) (
        if r43.toBool = true then
          Option.bind (α := PV) (
            (D 31 [.agg [.sc (.int .i64 ((cel 0 r6.cells).toInt)), .sc (.int .i64 ((cel 1 r6.cells).toInt)), .sc (.string ((cel 2 r6.cells).toStr))]]).bind fun r44 => if hasSh .bool r44 = true then
            some (.sc (.bool r44.toBool))
            else none) fun r45 =>
          some (.sc (.bool r45.toBool))
        else
          some (.sc (.bool false))) fun r46 =>
      Option.bind (α := PV) (
        if r46.toBool = true then
          Option.bind (α := PV) (
            (D 38 [.sc (.int .i64 code)]).bind fun r47 => if hasSh .str r47 = true then
            Option.bind (α := PV) (
              Option.bind (α := PV) (
                (D 39 [.sc (.int .i64 code)]).bind fun r48 => if hasSh .str r48 = true then
                some (.sc (.bool (r47.toStr.toList == r48.toStr.toList)))
                else none) fun r49 =>
              some (.sc (.bool r49.toBool))) fun r50 =>
            some (.sc (.bool r50.toBool))
            else none) fun r51 =>
          some (.sc (.bool r51.toBool))
        else
          some (.sc (.bool false))) fun r52 =>
      Option.bind (α := PV) (
        if r52.toBool = true then
          (D 25 []).bind fun r53 => if hasSh .bool r53 = true then
          some (.sc (.bool r53.toBool))
          else none
        else
          some (.sc (.bool false))) fun r54 =>
      some (.sc (.bool r54.toBool))
      else none
    else none
    else none
    else none
    else none
    else none
    else none
    else none :=
  (denI_eq k _ _).trans (by kernel_rfl)
-- oculus/oculuslaw12.alive
theorem f25_eq (k : Nat)  : D 25 [] =
  (D 27 [.sc (.string (⟨#[50, 46, 53, 48]⟩ : ByteArray))]).bind fun r1 => if hasSh (.agg [(.int .i64), (.int .i64), .str]) r1 = true then
  (D 63 [.agg [.sc (.int .i64 ((cel 0 r1.cells).toInt)), .sc (.int .i64 ((cel 1 r1.cells).toInt)), .sc (.string ((cel 2 r1.cells).toStr))]]).bind fun r2 => if hasSh (.agg [(.int .i64), (.int .i64), .str]) r2 = true then
  (D 26 [.sc (.int .i64 25000)]).bind fun r3 => if hasSh (.agg [(.int .i64), (.int .i64), .str]) r3 = true then
  Option.bind (α := PV) (
    if ((((cel 0 r2.cells).toInt) == ((cel 0 r3.cells).toInt)) && ((((cel 1 r2.cells).toInt) == ((cel 1 r3.cells).toInt)) && ((((cel 2 r2.cells).toStr).toList == ((cel 2 r3.cells).toStr).toList) && true))) = true then
      (D 27 [.sc (.string (⟨#[120]⟩ : ByteArray))]).bind fun r4 => if hasSh (.agg [(.int .i64), (.int .i64), .str]) r4 = true then
      Option.bind (α := PV) (
        (D 63 [.agg [.sc (.int .i64 ((cel 0 r4.cells).toInt)), .sc (.int .i64 ((cel 1 r4.cells).toInt)), .sc (.string ((cel 2 r4.cells).toStr))]]).bind fun r5 => if hasSh (.agg [(.int .i64), (.int .i64), .str]) r5 = true then
        Option.bind (α := PV) (
          (D 29 [.sc (.int .i64 2)]).bind fun r6 => if hasSh (.agg [(.int .i64), (.int .i64), .str]) r6 = true then
          some (.sc (.bool ((((cel 0 r5.cells).toInt) == ((cel 0 r6.cells).toInt)) && ((((cel 1 r5.cells).toInt) == ((cel 1 r6.cells).toInt)) && ((((cel 2 r5.cells).toStr).toList == ((cel 2 r6.cells).toStr).toList) && true)))))
          else none) fun r7 =>
        some (.sc (.bool r7.toBool))
        else none) fun r8 =>
      some (.sc (.bool r8.toBool))
      else none
    else
      some (.sc (.bool false))) fun r9 =>
  Option.bind (α := PV) (
    if r9.toBool = true then
      (D 26 [.sc (.int .i64 (-5000))]).bind fun r10 => if hasSh (.agg [(.int .i64), (.int .i64), .str]) r10 = true then
      Option.bind (α := PV) (
        (D 64 [.agg [.sc (.int .i64 ((cel 0 r10.cells).toInt)), .sc (.int .i64 ((cel 1 r10.cells).toInt)), .sc (.string ((cel 2 r10.cells).toStr))]]).bind fun r11 => if hasSh (.agg [(.int .i64), (.int .i64), .str]) r11 = true then
        Option.bind (α := PV) (
          (D 27 [.sc (.string (⟨#[45, 48, 46, 53]⟩ : ByteArray))]).bind fun r12 => if hasSh (.agg [(.int .i64), (.int .i64), .str]) r12 = true then
          some (.sc (.bool ((((cel 0 r11.cells).toInt) == ((cel 0 r12.cells).toInt)) && ((((cel 1 r11.cells).toInt) == ((cel 1 r12.cells).toInt)) && ((((cel 2 r11.cells).toStr).toList == ((cel 2 r12.cells).toStr).toList) && true)))))
          else none) fun r13 =>
        some (.sc (.bool r13.toBool))
        else none) fun r14 =>
      some (.sc (.bool r14.toBool))
      else none
    else
      some (.sc (.bool false))) fun r15 =>
  Option.bind (α := PV) (
    if r15.toBool = true then
      (D 26 [.sc (.int .i64 1)]).bind fun r16 => if hasSh (.agg [(.int .i64), (.int .i64), .str]) r16 = true then
      Option.bind (α := PV) (
        (D 65 [.agg [.sc (.int .i64 ((cel 0 r16.cells).toInt)), .sc (.int .i64 ((cel 1 r16.cells).toInt)), .sc (.string ((cel 2 r16.cells).toStr))]]).bind fun r17 => if hasSh (.agg [(.int .i64), (.int .i64), .str]) r17 = true then
        Option.bind (α := PV) (
          (D 28 [.sc (.bool true)]).bind fun r18 => if hasSh (.agg [(.int .i64), (.int .i64), .str]) r18 = true then
          some (.sc (.bool ((((cel 0 r17.cells).toInt) == ((cel 0 r18.cells).toInt)) && ((((cel 1 r17.cells).toInt) == ((cel 1 r18.cells).toInt)) && ((((cel 2 r17.cells).toStr).toList == ((cel 2 r18.cells).toStr).toList) && true)))))
          else none) fun r19 =>
        some (.sc (.bool r19.toBool))
        else none) fun r20 =>
      some (.sc (.bool r20.toBool))
      else none
    else
      some (.sc (.bool false))) fun r21 =>
  Option.bind (α := PV) (
    if r21.toBool = true then
      (D 26 [.sc (.int .i64 9)]).bind fun r22 => if hasSh (.agg [(.int .i64), (.int .i64), .str]) r22 = true then
      Option.bind (α := PV) (
        (D 27 [.sc (.string (⟨#[]⟩ : ByteArray))]).bind fun r23 => if hasSh (.agg [(.int .i64), (.int .i64), .str]) r23 = true then
        Option.bind (α := PV) (
          (D 66 [.agg [.sc (.int .i64 ((cel 0 r22.cells).toInt)), .sc (.int .i64 ((cel 1 r22.cells).toInt)), .sc (.string ((cel 2 r22.cells).toStr))], .agg [.sc (.int .i64 ((cel 0 r23.cells).toInt)), .sc (.int .i64 ((cel 1 r23.cells).toInt)), .sc (.string ((cel 2 r23.cells).toStr))]]).bind fun r24 => if hasSh (.int .i64) r24 = true then
          some (.sc (.bool (r24.toInt == (-1))))
          else none) fun r25 =>
        some (.sc (.bool r25.toBool))
        else none) fun r26 =>
      some (.sc (.bool r26.toBool))
      else none
    else
      some (.sc (.bool false))) fun r27 =>
  Option.bind (α := PV) (
    if r27.toBool = true then
      (D 27 [.sc (.string (⟨#[97, 34, 98]⟩ : ByteArray))]).bind fun r28 => if hasSh (.agg [(.int .i64), (.int .i64), .str]) r28 = true then
      Option.bind (α := PV) (
        (D 67 [.agg [.sc (.int .i64 ((cel 0 r28.cells).toInt)), .sc (.int .i64 ((cel 1 r28.cells).toInt)), .sc (.string ((cel 2 r28.cells).toStr))]]).bind fun r29 => if hasSh .str r29 = true then
        some (.sc (.bool (r29.toStr.toList == (⟨#[34, 97, 34, 34, 98, 34]⟩ : ByteArray).toList)))
        else none) fun r30 =>
      some (.sc (.bool r30.toBool))
      else none
    else
      some (.sc (.bool false))) fun r31 =>
  Option.bind (α := PV) (
    if r31.toBool = true then
      (D 29 [.sc (.int .i64 7)]).bind fun r32 => if hasSh (.agg [(.int .i64), (.int .i64), .str]) r32 = true then
      Option.bind (α := PV) (
        (D 67 [.agg [.sc (.int .i64 ((cel 0 r32.cells).toInt)), .sc (.int .i64 ((cel 1 r32.cells).toInt)), .sc (.string ((cel 2 r32.cells).toStr))]]).bind fun r33 => if hasSh .str r33 = true then
        some (.sc (.bool (r33.toStr.toList == (⟨#[35, 67, 89, 67, 76, 69]⟩ : ByteArray).toList)))
        else none) fun r34 =>
      some (.sc (.bool r34.toBool))
      else none
    else
      some (.sc (.bool false))) fun r35 =>
  some (.sc (.bool r35.toBool))
  else none
  else none
  else none :=
  (denI_eq k _ _).trans (by kernel_rfl)
-- oculus/value.Num
theorem f26_eq (k : Nat) (x_ : Int) : D 26 [.sc (.int .i64 x_)] =
  (D 68 [.agg [.sc (.int .i64 1), .sc (.int .i64 x_), .sc (.string (⟨#[]⟩ : ByteArray))], .sc (.int .i64 4)]).bind fun r1 => if hasSh (.agg [(.int .i64), (.int .i64), .str]) r1 = true then
  some (.agg [.sc (.int .i64 ((cel 0 r1.cells).toInt)), .sc (.int .i64 ((cel 1 r1.cells).toInt)), .sc (.string ((cel 2 r1.cells).toStr))])
  else none :=
  (denI_eq k _ _).trans (by kernel_rfl)
-- oculus/value.made
theorem f68_eq (k : Nat) (v_ v__1 : Int) (v__2 : ByteArray) (code : Int) : D 68 [.agg [.sc (.int .i64 v_), .sc (.int .i64 v__1), .sc (.string v__2)], .sc (.int .i64 code)] =
  (D 31 [.agg [.sc (.int .i64 v_), .sc (.int .i64 v__1), .sc (.string v__2)]]).bind fun r1 => if hasSh .bool r1 = true then
  if (!r1.toBool) = true then
    some (.agg [.sc (.int .i64 4), .sc (.int .i64 code), .sc (.string (⟨#[]⟩ : ByteArray))])
  else
    some (.agg [.sc (.int .i64 v_), .sc (.int .i64 v__1), .sc (.string v__2)])
  else none :=
  (denI_eq k _ _).trans (by kernel_rfl)
-- oculus/value.May
theorem f31_eq (k : Nat) (v_ v__1 : Int) (v__2 : ByteArray) : D 31 [.agg [.sc (.int .i64 v_), .sc (.int .i64 v__1), .sc (.string v__2)]] =
  if (v_ == 0) = true then
    Option.bind (α := PV) (
      if (v__1 == 0) = true then
        some (.sc (.bool (v__2.toList == (⟨#[]⟩ : ByteArray).toList)))
      else
        some (.sc (.bool false))) fun r1 =>
    some (.sc (.bool r1.toBool))
  else
    if (v_ == 1) = true then
      (D 69 [.sc (.int .i64 v__1)]).bind fun r2 => if hasSh .bool r2 = true then
      Option.bind (α := PV) (
        if r2.toBool = true then
          some (.sc (.bool (v__2.toList == (⟨#[]⟩ : ByteArray).toList)))
        else
          some (.sc (.bool false))) fun r3 =>
      some (.sc (.bool r3.toBool))
      else none
    else
      if (v_ == 2) = true then
        Option.bind (α := PV) (
          if (v__1 == 0) = true then
            some (.sc (.bool (decide ((v__2.size : Int) ≤ 256))))
          else
            some (.sc (.bool false))) fun r4 =>
        some (.sc (.bool r4.toBool))
      else
        if (v_ == 3) = true then
          Option.bind (α := PV) (
            if (v__1 == 0) = true then
              some (.sc (.bool true))
            else
              some (.sc (.bool (v__1 == 1)))) fun r5 =>
          Option.bind (α := PV) (
            if r5.toBool = true then
              some (.sc (.bool (v__2.toList == (⟨#[]⟩ : ByteArray).toList)))
            else
              some (.sc (.bool false))) fun r6 =>
          some (.sc (.bool r6.toBool))
        else
          if (v_ == 4) = true then
            Option.bind (α := PV) (
              if decide (v__1 ≥ 1) = true then
                some (.sc (.bool (decide (v__1 ≤ 7))))
              else
                some (.sc (.bool false))) fun r7 =>
            Option.bind (α := PV) (
              if r7.toBool = true then
                some (.sc (.bool (v__2.toList == (⟨#[]⟩ : ByteArray).toList)))
              else
                some (.sc (.bool false))) fun r8 =>
            some (.sc (.bool r8.toBool))
          else
            some (.sc (.bool false)) :=
  (denI_eq k _ _).trans (by kernel_rfl)
-- oculus/dec.May
theorem f69_eq (k : Nat) (x_ : Int) : D 69 [.sc (.int .i64 x_)] =
  some (.sc (.bool (x_ != (-9223372036854775808)))) :=
  (denI_eq k _ _).trans (by kernel_rfl)
-- oculus/value.Str
theorem f27_eq (k : Nat) (t : ByteArray) : D 27 [.sc (.string t)] =
  (D 68 [.agg [.sc (.int .i64 2), .sc (.int .i64 0), .sc (.string t)], .sc (.int .i64 2)]).bind fun r1 => if hasSh (.agg [(.int .i64), (.int .i64), .str]) r1 = true then
  some (.agg [.sc (.int .i64 ((cel 0 r1.cells).toInt)), .sc (.int .i64 ((cel 1 r1.cells).toInt)), .sc (.string ((cel 2 r1.cells).toStr))])
  else none :=
  (denI_eq k _ _).trans (by kernel_rfl)
-- oculus/value.Bool
theorem f28_eq (k : Nat) (is : Bool) : D 28 [.sc (.bool is)] =
  if is = true then
    some (.agg [.sc (.int .i64 3), .sc (.int .i64 1), .sc (.string (⟨#[]⟩ : ByteArray))])
  else
    some (.agg [.sc (.int .i64 3), .sc (.int .i64 0), .sc (.string (⟨#[]⟩ : ByteArray))]) :=
  (denI_eq k _ _).trans (by kernel_rfl)
-- oculus/value.Bad
theorem f29_eq (k : Nat) (code : Int) : D 29 [.sc (.int .i64 code)] =
  (D 68 [.agg [.sc (.int .i64 4), .sc (.int .i64 code), .sc (.string (⟨#[]⟩ : ByteArray))], .sc (.int .i64 2)]).bind fun r1 => if hasSh (.agg [(.int .i64), (.int .i64), .str]) r1 = true then
  some (.agg [.sc (.int .i64 ((cel 0 r1.cells).toInt)), .sc (.int .i64 ((cel 1 r1.cells).toInt)), .sc (.string ((cel 2 r1.cells).toStr))])
  else none :=
  (denI_eq k _ _).trans (by kernel_rfl)
-- oculus/value.AsNumber
theorem f63_eq (k : Nat) (v_ v__1 : Int) (v__2 : ByteArray) : D 63 [.agg [.sc (.int .i64 v_), .sc (.int .i64 v__1), .sc (.string v__2)]] =
  if (v_ == 0) = true then
    (D 26 [.sc (.int .i64 0)]).bind fun r1 => if hasSh (.agg [(.int .i64), (.int .i64), .str]) r1 = true then
    some (.agg [.sc (.int .i64 ((cel 0 r1.cells).toInt)), .sc (.int .i64 ((cel 1 r1.cells).toInt)), .sc (.string ((cel 2 r1.cells).toStr))])
    else none
  else
    if (v_ == 3) = true then
      (D 26 [.sc (.int .i64 (IntKind.i64.wrap (v__1 * 10000)))]).bind fun r2 => if hasSh (.agg [(.int .i64), (.int .i64), .str]) r2 = true then
      some (.agg [.sc (.int .i64 ((cel 0 r2.cells).toInt)), .sc (.int .i64 ((cel 1 r2.cells).toInt)), .sc (.string ((cel 2 r2.cells).toStr))])
      else none
    else
      if (v_ == 2) = true then
        (D 91 [.sc (.string v__2)]).bind fun r3 => if hasSh (.tup [(.int .i64), .bool]) r3 = true then
        if (cel 1 r3.parts).toBool = true then
          (D 26 [.sc (.int .i64 ((cel 0 r3.parts).toInt))]).bind fun r4 => if hasSh (.agg [(.int .i64), (.int .i64), .str]) r4 = true then
          some (.agg [.sc (.int .i64 ((cel 0 r4.cells).toInt)), .sc (.int .i64 ((cel 1 r4.cells).toInt)), .sc (.string ((cel 2 r4.cells).toStr))])
          else none
        else
          (D 29 [.sc (.int .i64 2)]).bind fun r5 => if hasSh (.agg [(.int .i64), (.int .i64), .str]) r5 = true then
          some (.agg [.sc (.int .i64 ((cel 0 r5.cells).toInt)), .sc (.int .i64 ((cel 1 r5.cells).toInt)), .sc (.string ((cel 2 r5.cells).toStr))])
          else none
        else none
      else
        some (.agg [.sc (.int .i64 v_), .sc (.int .i64 v__1), .sc (.string v__2)]) :=
  (denI_eq k _ _).trans (by kernel_rfl)
-- oculus/digits.Read
noncomputable def f91.l0a (k : Nat) (minus : Bool) (x_ y t53 t54 : Int) : Option PV := loopAt Tryd.prog 6 ext hint k 91 [1, 1, 1, 1, 1, 1, 1, 0, 1, 0] ⟨[.top, .top, .top, .top, .top, .sc (.bool minus), .top, .top, .top, .sc (.int .i64 x_), .top, .sc (.int .i64 y), .top, .top, .top, .top, .top, .top, .top, .top, .top, .top, .top, .top, .top, .top, .top, .top, .top, .top, .top, .top, .top, .top, .top, .top, .top, .top, .top, .top, .top, .top, .top, .top, .top, .top, .top, .top, .top, .top, .top, .top, .top, .sc (.int .i64 t53), .sc (.int .i64 t54), .top, .top, .top, .top, .top, .top, .top, .top, .top, .top], []⟩
theorem f91_eq (k : Nat) (t : ByteArray) : D 91 [.sc (.string t)] =
  (D 112 [.sc (.string t), .sc (.string (⟨#[45]⟩ : ByteArray))]).bind fun r1 => if hasSh (.tup [.str, .bool]) r1 = true then
  if decide ((t.size : Int) > 40) = true then
    some (.tup [.sc (.int .i64 0), .sc (.bool false)])
  else
    (D 113 [.sc (.string ((cel 0 r1.parts).toStr)), .sc (.string (⟨#[46]⟩ : ByteArray))]).bind fun r2 => if hasSh (.tup [.str, .str, .bool]) r2 = true then
    (D 114 [.sc (.string ((cel 0 r2.parts).toStr))]).bind fun r3 => if hasSh (.tup [(.int .i64), .bool]) r3 = true then
    (D 114 [.sc (.string ((cel 1 r2.parts).toStr))]).bind fun r4 => if hasSh (.tup [(.int .i64), .bool]) r4 = true then
    Option.bind (α := PV) (
      if (!((cel 1 r3.parts).toBool)) = true then
        some (.sc (.bool true))
      else
        Option.bind (α := PV) (
          Option.bind (α := PV) (
            if (cel 2 r2.parts).toBool = true then
              Option.bind (α := PV) (
                Option.bind (α := PV) (
                  Option.bind (α := PV) (
                    if (!((cel 1 r4.parts).toBool)) = true then
                      some (.sc (.bool true))
                    else
                      some (.sc (.bool (decide ((((cel 1 r2.parts).toStr).size : Int) > 4))))) fun r5 =>
                  some (.sc (.bool r5.toBool))) fun r6 =>
                some (.sc (.bool r6.toBool))) fun r7 =>
              some (.sc (.bool r7.toBool))
            else
              some (.sc (.bool false))) fun r8 =>
          some (.sc (.bool r8.toBool))) fun r9 =>
        some (.sc (.bool r9.toBool))) fun r10 =>
    if r10.toBool = true then
      some (.tup [.sc (.int .i64 0), .sc (.bool false)])
    else
      f91.l0a k ((cel 1 r1.parts).toBool) ((cel 0 r3.parts).toInt) ((cel 0 r4.parts).toInt) (IntKind.i64.wrap ((4 : Int) - (((cel 1 r2.parts).toStr).size : Int))) 0
    else none
    else none
    else none
  else none :=
  (denI_eq k _ _).trans (by kernel_rfl)
theorem f91.l0a_eq (k : Nat) (minus : Bool) (x_ y t53 t54 : Int) : f91.l0a k minus x_ y t53 t54 =
  if decide (t54 < t53) = true then
    f91.l0a k minus x_ (IntKind.i64.wrap (y * 10)) t53 (IntKind.i64.wrap (t54 + 1))
  else
    (D 115 [.sc (.int .i64 x_), .sc (.int .i64 y), .sc (.bool minus)]).bind fun r11 => if hasSh (.tup [(.int .i64), .bool]) r11 = true then
    some (.tup [.sc (.int .i64 ((cel 0 r11.parts).toInt)), .sc (.bool ((cel 1 r11.parts).toBool))])
    else none :=
  (loopAt_eq _ _ _ _).trans (by kernel_rfl)
-- oculus/digits.number
noncomputable def f114.l0a (k : Nat) (t : ByteArray) (n_ t11 t12 : Int) : Option PV := loopAt Tryd.prog 6 ext hint k 114 [1, 1, 0, 1, 0] ⟨[.sc (.string t), .top, .top, .top, .sc (.int .i64 n_), .top, .top, .top, .top, .top, .top, .sc (.int .i64 t11), .sc (.int .i64 t12), .top, .top, .top, .top, .top, .top, .top, .top, .top, .top, .top, .top, .top, .top, .top, .top, .top, .top, .top, .top, .top, .top, .top, .top, .top, .top, .top, .top, .top, .top, .top, .top, .top, .top, .top, .top, .top, .top], []⟩
theorem f114_eq (k : Nat) (t : ByteArray) : D 114 [.sc (.string t)] =
  f114.l0a k t 0 (t.size : Int) 0 :=
  (denI_eq k _ _).trans (by kernel_rfl)
theorem f114.l0a_eq (k : Nat) (t : ByteArray) (n_ t11 t12 : Int) : f114.l0a k t n_ t11 t12 =
  if decide (t12 < t11) = true then
    if 0 ≤ t12 then
      if t12 < (t.size : Int) then
        Option.bind (α := PV) (
          if decide ((bt t t12) < 48) = true then
            some (.sc (.bool true))
          else
            Option.bind (α := PV) (
              Option.bind (α := PV) (
                if 0 ≤ t12 then
                  if t12 < (t.size : Int) then
                    some (.sc (.bool (decide ((bt t t12) > 57))))
                  else none
                else none) fun r1 =>
              some (.sc (.bool r1.toBool))) fun r2 =>
            some (.sc (.bool r2.toBool))) fun r3 =>
        if r3.toBool = true then
          some (.tup [.sc (.int .i64 0), .sc (.bool false)])
        else
          (D 134 [.sc (.int .i64 n_), .sc (.int .i64 10), .sc (.int .i64 1)]).bind fun r4 => if hasSh (.tup [(.int .i64), .bool]) r4 = true then
          if 0 ≤ t12 then
            if t12 < (t.size : Int) then
              (D 135 [.sc (.int .i64 ((cel 0 r4.parts).toInt)), .sc (.int .i64 (IntKind.i64.wrap (IntKind.u8.wrap ((bt t t12) - 48))))]).bind fun r5 => if hasSh (.tup [(.int .i64), .bool]) r5 = true then
              Option.bind (α := PV) (
                if (!((cel 1 r4.parts).toBool)) = true then
                  some (.sc (.bool true))
                else
                  some (.sc (.bool (!((cel 1 r5.parts).toBool))))) fun r6 =>
              if r6.toBool = true then
                some (.tup [.sc (.int .i64 0), .sc (.bool false)])
              else
                f114.l0a k t ((cel 0 r5.parts).toInt) t11 (IntKind.i64.wrap (t12 + 1))
              else none
            else none
          else none
          else none
      else none
    else none
  else
    some (.tup [.sc (.int .i64 n_), .sc (.bool (!(t.toList == (⟨#[]⟩ : ByteArray).toList)))]) :=
  (loopAt_eq _ _ _ _).trans (by kernel_rfl)
-- oculus/dec.Scaled
noncomputable def f134.j0a (k : Nat) (a b c q : Int) : Option PV := gateK k (placeAt Tryd.prog 6 ext hint k 134 [1, 1, 1, 1, 1, 1, 1]) ⟨[.sc (.int .i64 a), .sc (.int .i64 b), .sc (.int .i64 c), .top, .top, .top, .top, .top, .top, .top, .top, .sc (.int .u64 q), .top, .top, .top, .top, .top, .top, .top, .top, .top, .top, .top, .top, .top, .top, .top, .top, .top, .top, .top, .top, .top, .top, .top, .top, .top, .top, .top, .top, .top, .top, .top, .top, .top, .top, .top, .top, .top, .top, .top, .top, .top, .top, .top, .top, .top, .top, .top, .top, .top, .top, .top, .top, .top, .top, .top, .top, .top, .top, .top, .top, .top], []⟩
theorem f134_eq (k : Nat) (a b c : Int) : D 134 [.sc (.int .i64 a), .sc (.int .i64 b), .sc (.int .i64 c)] =
  (D 69 [.sc (.int .i64 a)]).bind fun r1 => if hasSh .bool r1 = true then
  Option.bind (α := PV) (
    if (!r1.toBool) = true then
      some (.sc (.bool true))
    else
      Option.bind (α := PV) (
        (D 69 [.sc (.int .i64 b)]).bind fun r2 => if hasSh .bool r2 = true then
        some (.sc (.bool (!r2.toBool)))
        else none) fun r3 =>
      some (.sc (.bool r3.toBool))) fun r4 =>
  Option.bind (α := PV) (
    if r4.toBool = true then
      some (.sc (.bool true))
    else
      Option.bind (α := PV) (
        (D 69 [.sc (.int .i64 c)]).bind fun r5 => if hasSh .bool r5 = true then
        some (.sc (.bool (!r5.toBool)))
        else none) fun r6 =>
      some (.sc (.bool r6.toBool))) fun r7 =>
  Option.bind (α := PV) (
    if r7.toBool = true then
      some (.sc (.bool true))
    else
      some (.sc (.bool (c == 0)))) fun r8 =>
  if r8.toBool = true then
    some (.tup [.sc (.int .i64 0), .sc (.bool false)])
  else
    (D 158 [.sc (.int .i64 c)]).bind fun r9 => if hasSh (.int .u64) r9 = true then
    (D 158 [.sc (.int .i64 a)]).bind fun r10 => if hasSh (.int .u64) r10 = true then
    (D 158 [.sc (.int .i64 b)]).bind fun r11 => if hasSh (.int .u64) r11 = true then
    (D 159 [.sc (.int .u64 r10.toInt), .sc (.int .u64 r11.toInt)]).bind fun r12 => if hasSh (.tup [(.int .u64), (.int .u64)]) r12 = true then
    if decide (((cel 0 r12.parts).toInt) ≥ r9.toInt) = true then
      some (.tup [.sc (.int .i64 0), .sc (.bool false)])
    else
      (D 160 [.sc (.int .u64 ((cel 0 r12.parts).toInt)), .sc (.int .u64 ((cel 1 r12.parts).toInt)), .sc (.int .u64 r9.toInt)]).bind fun r13 => if hasSh (.tup [(.int .u64), (.int .u64)]) r13 = true then
      if decide (((cel 1 r13.parts).toInt) ≥ (IntKind.u64.wrap (r9.toInt - ((cel 1 r13.parts).toInt)))) = true then
        f134.j0a k a b c (IntKind.u64.wrap (((cel 0 r13.parts).toInt) + 1))
      else
        f134.j0a k a b c ((cel 0 r13.parts).toInt)
      else none
    else none
    else none
    else none
    else none
  else none :=
  (denI_eq k _ _).trans (by kernel_rfl)
theorem f134.j0a_eq (k : Nat) (a b c q : Int) : f134.j0a k a b c q =
  if decide (q > 9223372036854775807) = true then
    some (.tup [.sc (.int .i64 0), .sc (.bool false)])
  else
    (D 94 [.sc (.int .i64 a)]).bind fun r14 => if hasSh (.int .i64) r14 = true then
    (D 94 [.sc (.int .i64 b)]).bind fun r15 => if hasSh (.int .i64) r15 = true then
    (D 94 [.sc (.int .i64 c)]).bind fun r16 => if hasSh (.int .i64) r16 = true then
    if decide ((IntKind.i64.wrap ((IntKind.i64.wrap (r14.toInt * r15.toInt)) * r16.toInt)) < 0) = true then
      some (.tup [.sc (.int .i64 (IntKind.i64.wrap (0 - (IntKind.i64.wrap (q))))), .sc (.bool true)])
    else
      some (.tup [.sc (.int .i64 (IntKind.i64.wrap (q))), .sc (.bool true)])
    else none
    else none
    else none :=
  (gateK_open _ _ _).trans (by kernel_rfl)
-- oculus/dec.Sign
theorem f94_eq (k : Nat) (x_ : Int) : D 94 [.sc (.int .i64 x_)] =
  if decide (x_ < 0) = true then
    some (.sc (.int .i64 (-1)))
  else
    if decide (x_ > 0) = true then
      some (.sc (.int .i64 1))
    else
      some (.sc (.int .i64 0)) :=
  (denI_eq k _ _).trans (by kernel_rfl)
-- oculus/dec.size
theorem f158_eq (k : Nat) (x_ : Int) : D 158 [.sc (.int .i64 x_)] =
  if decide (x_ < 0) = true then
    some (.sc (.int .u64 (IntKind.u64.wrap (IntKind.i64.wrap (0 - x_)))))
  else
    some (.sc (.int .u64 (IntKind.u64.wrap (x_)))) :=
  (denI_eq k _ _).trans (by kernel_rfl)
-- math/bits.Mul64
theorem f159_eq (k : Nat) (x_ y : Int) : D 159 [.sc (.int .u64 x_), .sc (.int .u64 y)] =
  some (.tup [.sc (.int .u64 (IntKind.u64.wrap ((IntKind.u64.wrap ((IntKind.u64.wrap ((x_.fdiv 4294967296) * (y.fdiv 4294967296))) + ((IntKind.u64.wrap ((IntKind.u64.wrap ((x_.fdiv 4294967296) * (bits .and .u64 y 4294967295))) + ((IntKind.u64.wrap ((bits .and .u64 x_ 4294967295) * (bits .and .u64 y 4294967295))).fdiv 4294967296))).fdiv 4294967296))) + ((IntKind.u64.wrap ((bits .and .u64 (IntKind.u64.wrap ((IntKind.u64.wrap ((x_.fdiv 4294967296) * (bits .and .u64 y 4294967295))) + ((IntKind.u64.wrap ((bits .and .u64 x_ 4294967295) * (bits .and .u64 y 4294967295))).fdiv 4294967296))) 4294967295) + (IntKind.u64.wrap ((bits .and .u64 x_ 4294967295) * (y.fdiv 4294967296))))).fdiv 4294967296)))), .sc (.int .u64 (IntKind.u64.wrap (x_ * y)))]) :=
  (denI_eq k _ _).trans (by kernel_rfl)
end EV
end Go.Den
