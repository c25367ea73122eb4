import Derived.Test.YtbkdoeghgdbjlaaGreatDoorEVh
import Derived.KernelRfl
set_option maxRecDepth 100000
set_option linter.unusedVariables false
namespace Go.Den
open Go Go.Proofs
namespace EV
-- oculus/oculuslaw12.ValueTurns
theorem f3_eq (k : Nat) (v_ v__1 : Int) (v__2 : ByteArray) : D 3 [.agg [.sc (.int .i64 v_), .sc (.int .i64 v__1), .sc (.string v__2)]] =
  (D 9 [.agg [.sc (.int .i64 v_), .sc (.int .i64 v__1), .sc (.string v__2)]]).bind fun r1 => if hasSh .bool r1 = true then
  if (!r1.toBool) = true then
    (D 10 []).bind fun r2 => if hasSh .bool r2 = true then
    some (.sc (.bool r2.toBool))
    else none
  else
    (D 11 [.agg [.sc (.int .i64 v_), .sc (.int .i64 v__1), .sc (.string v__2)]]).bind fun r3 => if hasSh (.agg [(.int .i64), (.int .i64), .str]) r3 = true then
    (D 12 [.agg [.sc (.int .i64 v_), .sc (.int .i64 v__1), .sc (.string v__2)]]).bind fun r4 => if hasSh (.agg [(.int .i64), (.int .i64), .str]) r4 = true then
    (D 13 [.agg [.sc (.int .i64 v_), .sc (.int .i64 v__1), .sc (.string v__2)]]).bind fun r5 => if hasSh (.agg [(.int .i64), (.int .i64), .str]) r5 = true then
    (D 14 [.agg [.sc (.int .i64 v_), .sc (.int .i64 v__1), .sc (.string v__2)]]).bind fun r6 => if hasSh (.agg [(.int .i64), (.int .i64), .str]) r6 = true then
    Option.bind (α := PV) (
      if (!((((cel 0 r3.cells).toInt) == ((cel 0 r6.cells).toInt)) && ((((cel 1 r3.cells).toInt) == ((cel 1 r6.cells).toInt)) && ((((cel 2 r3.cells).toStr).toList == ((cel 2 r6.cells).toStr).toList) && true)))) = true then
        some (.sc (.bool true))
      else
        Option.bind (α := PV) (
          Option.bind (α := PV) (
            (D 15 [.agg [.sc (.int .i64 v_), .sc (.int .i64 v__1), .sc (.string v__2)]]).bind fun r7 => if hasSh (.agg [(.int .i64), (.int .i64), .str]) r7 = true then
            some (.sc (.bool (!((((cel 0 r4.cells).toInt) == ((cel 0 r7.cells).toInt)) && ((((cel 1 r4.cells).toInt) == ((cel 1 r7.cells).toInt)) && ((((cel 2 r4.cells).toStr).toList == ((cel 2 r7.cells).toStr).toList) && true))))))
            else none) fun r8 =>
          some (.sc (.bool r8.toBool))) fun r9 =>
        some (.sc (.bool r9.toBool))) fun r10 =>
    Option.bind (α := PV) (
      if r10.toBool = true then
        some (.sc (.bool true))
      else
        Option.bind (α := PV) (
          Option.bind (α := PV) (
            (D 16 [.agg [.sc (.int .i64 v_), .sc (.int .i64 v__1), .sc (.string v__2)]]).bind fun r11 => if hasSh (.agg [(.int .i64), (.int .i64), .str]) r11 = true then
            some (.sc (.bool (!((((cel 0 r5.cells).toInt) == ((cel 0 r11.cells).toInt)) && ((((cel 1 r5.cells).toInt) == ((cel 1 r11.cells).toInt)) && ((((cel 2 r5.cells).toStr).toList == ((cel 2 r11.cells).toStr).toList) && true))))))
            else none) fun r12 =>
          some (.sc (.bool r12.toBool))) fun r13 =>
        some (.sc (.bool r13.toBool))) fun r14 =>
    Option.bind (α := PV) (
      if r14.toBool = true then
        some (.sc (.bool true))
      else
        Option.bind (α := PV) (
          (D 17 [.agg [.sc (.int .i64 v_), .sc (.int .i64 v__1), .sc (.string v__2)]]).bind fun r15 => if hasSh .str r15 = true then
          Option.bind (α := PV) (
            Option.bind (α := PV) (
              (D 18 [.agg [.sc (.int .i64 v_), .sc (.int .i64 v__1), .sc (.string v__2)]]).bind fun r16 => if hasSh .str r16 = true then
              some (.sc (.bool (!(r15.toStr.toList == r16.toStr.toList))))
              else none) fun r17 =>
            some (.sc (.bool r17.toBool))) fun r18 =>
          some (.sc (.bool r18.toBool))
          else none) fun r19 =>
        some (.sc (.bool r19.toBool))) fun r20 =>
    Option.bind (α := PV) (
      if r20.toBool = true then
        some (.sc (.bool true))
      else
        Option.bind (α := PV) (
          Option.bind (α := PV) (
            (D 19 [.sc (.string v__2)]).bind fun r21 => if hasSh .str r21 = true then
            Option.bind (α := PV) (
              Option.bind (α := PV) (
                Option.bind (α := PV) (
                  (D 20 [.sc (.string v__2)]).bind fun r22 => if hasSh .str r22 = true then
                  some (.sc (.bool (!(r21.toStr.toList == r22.toStr.toList))))
                  else none) fun r23 =>
                some (.sc (.bool r23.toBool))) fun r24 =>
              some (.sc (.bool r24.toBool))) fun r25 =>
            some (.sc (.bool r25.toBool))
            else none) fun r26 =>
          some (.sc (.bool r26.toBool))) fun r27 =>
        some (.sc (.bool r27.toBool))) fun r28 =>
    if r28.toBool = true then
      some (.sc (.bool false))
    else
      Option.bind (α := PV) (
        if (((cel 0 r3.cells).toInt) != 1) = true then
          some (.sc (.bool (((cel 0 r3.cells).toInt) != 4)))
        else
          some (.sc (.bool false))) fun r29 =>
      Option.bind (α := PV) (
        if r29.toBool = true then
          some (.sc (.bool true))
        else
          Option.bind (α := PV) (
            Option.bind (α := PV) (
              Option.bind (α := PV) (
                Option.bind (α := PV) (
                  if (((cel 0 r4.cells).toInt) != 2) = true then
                    some (.sc (.bool (((cel 0 r4.cells).toInt) != 4)))
                  else
                    some (.sc (.bool false))) fun r30 =>
                some (.sc (.bool r30.toBool))) fun r31 =>
              some (.sc (.bool r31.toBool))) fun r32 =>
            some (.sc (.bool r32.toBool))) fun r33 =>
          some (.sc (.bool r33.toBool))) fun r34 =>
      Option.bind (α := PV) (
        if r34.toBool = true then
          some (.sc (.bool true))
        else
          Option.bind (α := PV) (
            Option.bind (α := PV) (
              Option.bind (α := PV) (
                Option.bind (α := PV) (
                  if (((cel 0 r5.cells).toInt) != 3) = true then
                    some (.sc (.bool (((cel 0 r5.cells).toInt) != 4)))
                  else
                    some (.sc (.bool false))) fun r35 =>
                some (.sc (.bool r35.toBool))) fun r36 =>
              some (.sc (.bool r36.toBool))) fun r37 =>
            some (.sc (.bool r37.toBool))) fun r38 =>
          some (.sc (.bool r38.toBool))) fun r39 =>
      if r39.toBool = true then
        some (.sc (.bool false))
      else
        Option.bind (α := PV) (
          if (v_ != 4) = true then
            some (.sc (.bool true))
          else
            Option.bind (α := PV) (
              Option.bind (α := PV) (
                Option.bind (α := PV) (
                  Option.bind (α := PV) (
                    if ((((cel 0 r3.cells).toInt) == v_) && ((((cel 1 r3.cells).toInt) == v__1) && ((((cel 2 r3.cells).toStr).toList == v__2.toList) && true))) = true then
                      some (.sc (.bool ((((cel 0 r4.cells).toInt) == v_) && ((((cel 1 r4.cells).toInt) == v__1) && ((((cel 2 r4.cells).toStr).toList == v__2.toList) && true)))))
                    else
                      some (.sc (.bool false))) fun r40 =>
                  Option.bind (α := PV) (
                    Option.bind (α := PV) (
                      if r40.toBool = true then
                        some (.sc (.bool ((((cel 0 r5.cells).toInt) == v_) && ((((cel 1 r5.cells).toInt) == v__1) && ((((cel 2 r5.cells).toStr).toList == v__2.toList) && true)))))
                      else
                        some (.sc (.bool false))) fun r41 =>
                    some (.sc (.bool r41.toBool))) fun r42 =>
                  some (.sc (.bool r42.toBool))) fun r43 =>
                some (.sc (.bool r43.toBool))) fun r44 =>
              some (.sc (.bool r44.toBool))) fun r45 =>
            some (.sc (.bool r45.toBool))) fun r46 =>
        Option.bind (α := PV) (
          if r46.toBool = true then
            Option.bind (α := PV) (
              Option.bind (α := PV) (
                Option.bind (α := PV) (
                  Option.bind (α := PV) (
                    if (v_ != 1) = true then
                      some (.sc (.bool true))
                    else
                      Option.bind (α := PV) (
                        (D 11 [.agg [.sc (.int .i64 ((cel 0 r4.cells).toInt)), .sc (.int .i64 ((cel 1 r4.cells).toInt)), .sc (.string ((cel 2 r4.cells).toStr))]]).bind fun r47 => if hasSh (.agg [(.int .i64), (.int .i64), .str]) r47 = true then
                        some (.sc (.bool ((((cel 0 r47.cells).toInt) == v_) && ((((cel 1 r47.cells).toInt) == v__1) && ((((cel 2 r47.cells).toStr).toList == v__2.toList) && true)))))
                        else none) fun r48 =>
                      some (.sc (.bool r48.toBool))) fun r49 =>
                  some (.sc (.bool r49.toBool))) fun r50 =>
                some (.sc (.bool r50.toBool))) fun r51 =>
              some (.sc (.bool r51.toBool))) fun r52 =>
            some (.sc (.bool r52.toBool))
          else
            some (.sc (.bool false))) fun r53 =>
        Option.bind (α := PV) (
          if r53.toBool = true then
            Option.bind (α := PV) (
              Option.bind (α := PV) (
                Option.bind (α := PV) (
                  Option.bind (α := PV) (
                    if (v_ != 3) = true then
                      some (.sc (.bool true))
                    else
                      Option.bind (α := PV) (
                        (D 13 [.agg [.sc (.int .i64 ((cel 0 r4.cells).toInt)), .sc (.int .i64 ((cel 1 r4.cells).toInt)), .sc (.string ((cel 2 r4.cells).toStr))]]).bind fun r54 => if hasSh (.agg [(.int .i64), (.int .i64), .str]) r54 = true then
                        some (.sc (.bool ((((cel 0 r54.cells).toInt) == v_) && ((((cel 1 r54.cells).toInt) == v__1) && ((((cel 2 r54.cells).toStr).toList == v__2.toList) && true)))))
                        else none) fun r55 =>
                      some (.sc (.bool r55.toBool))) fun r56 =>
                  some (.sc (.bool r56.toBool))) fun r57 =>
                some (.sc (.bool r57.toBool))) fun r58 =>
              some (.sc (.bool r58.toBool))) fun r59 =>
            some (.sc (.bool r59.toBool))
          else
            some (.sc (.bool false))) fun r60 =>
        Option.bind (α := PV) (
          if r60.toBool = true then
            (D 10 []).bind fun r61 => if hasSh .bool r61 = true then
            some (.sc (.bool r61.toBool))
            else none
          else
            some (.sc (.bool false))) fun r62 =>
        some (.sc (.bool r62.toBool))
    else none
    else none
    else none
    else none
  else none :=
  (denI_eq k _ _).trans (by kernel_rfl)
-- oculus/oculusref12.May
theorem f9_eq (k : Nat) (v_ v__1 : Int) (v__2 : ByteArray) : D 9 [.agg [.sc (.int .i64 v_), .sc (.int .i64 v__1), .sc (.string v__2)]] =
  Option.bind (α := PV) (
    if (v_ == 0) = true then
      some (.sc (.bool (v__2.toList == (⟨#[]⟩ : ByteArray).toList)))
    else
      some (.sc (.bool false))) fun r1 =>
  Option.bind (α := PV) (
    if r1.toBool = true then
      some (.sc (.bool (v__1 == 0)))
    else
      some (.sc (.bool false))) fun r2 =>
  Option.bind (α := PV) (
    if r2.toBool = true then
      some (.sc (.bool true))
    else
      Option.bind (α := PV) (
        Option.bind (α := PV) (
          Option.bind (α := PV) (
            Option.bind (α := PV) (
              if (v_ == 1) = true then
                some (.sc (.bool (v__2.toList == (⟨#[]⟩ : ByteArray).toList)))
              else
                some (.sc (.bool false))) fun r3 =>
            Option.bind (α := PV) (
              Option.bind (α := PV) (
                if r3.toBool = true then
                  Option.bind (α := PV) (
                    Option.bind (α := PV) (
                      (D 56 [.sc (.int .i64 v__1)]).bind fun r4 => if hasSh .bool r4 = true then
                      some (.sc (.bool r4.toBool))
                      else none) fun r5 =>
                    some (.sc (.bool r5.toBool))) fun r6 =>
                  some (.sc (.bool r6.toBool))
                else
                  some (.sc (.bool false))) fun r7 =>
              some (.sc (.bool r7.toBool))) fun r8 =>
            some (.sc (.bool r8.toBool))) fun r9 =>
          some (.sc (.bool r9.toBool))) fun r10 =>
        some (.sc (.bool r10.toBool))) fun r11 =>
      some (.sc (.bool r11.toBool))) fun r12 =>
  Option.bind (α := PV) (
    if r12.toBool = true then
      some (.sc (.bool true))
    else
      Option.bind (α := PV) (
        Option.bind (α := PV) (
          Option.bind (α := PV) (
            Option.bind (α := PV) (
              if (v_ == 2) = true then
                some (.sc (.bool (v__1 == 0)))
              else
                some (.sc (.bool false))) fun r13 =>
            Option.bind (α := PV) (
              Option.bind (α := PV) (
                if r13.toBool = true then
                  some (.sc (.bool (decide ((v__2.size : Int) ≤ 256))))
                else
                  some (.sc (.bool false))) fun r14 =>
              some (.sc (.bool r14.toBool))) fun r15 =>
            some (.sc (.bool r15.toBool))) fun r16 =>
          some (.sc (.bool r16.toBool))) fun r17 =>
        some (.sc (.bool r17.toBool))) fun r18 =>
      some (.sc (.bool r18.toBool))) fun r19 =>
  Option.bind (α := PV) (
    if r19.toBool = true then
      some (.sc (.bool true))
    else
      Option.bind (α := PV) (
        Option.bind (α := PV) (
          Option.bind (α := PV) (
            Option.bind (α := PV) (
              if (v_ == 3) = true then
                some (.sc (.bool (v__2.toList == (⟨#[]⟩ : ByteArray).toList)))
              else
                some (.sc (.bool false))) fun r20 =>
            Option.bind (α := PV) (
              Option.bind (α := PV) (
                if r20.toBool = true then
                  Option.bind (α := PV) (
                    Option.bind (α := PV) (
                      Option.bind (α := PV) (
                        Option.bind (α := PV) (
                          if (v__1 == 0) = true then
                            some (.sc (.bool true))
                          else
                            some (.sc (.bool (v__1 == 1)))) fun r21 =>
                        some (.sc (.bool r21.toBool))) fun r22 =>
                      some (.sc (.bool r22.toBool))) fun r23 =>
                    some (.sc (.bool r23.toBool))) fun r24 =>
                  some (.sc (.bool r24.toBool))
                else
                  some (.sc (.bool false))) fun r25 =>
              some (.sc (.bool r25.toBool))) fun r26 =>
            some (.sc (.bool r26.toBool))) fun r27 =>
          some (.sc (.bool r27.toBool))) fun r28 =>
        some (.sc (.bool r28.toBool))) fun r29 =>
      some (.sc (.bool r29.toBool))) fun r30 =>
  Option.bind (α := PV) (
    if r30.toBool = true then
      some (.sc (.bool true))
    else
      Option.bind (α := PV) (
        Option.bind (α := PV) (
          Option.bind (α := PV) (
            Option.bind (α := PV) (
              if (v_ == 4) = true then
                some (.sc (.bool (v__2.toList == (⟨#[]⟩ : ByteArray).toList)))
              else
                some (.sc (.bool false))) fun r31 =>
            Option.bind (α := PV) (
              Option.bind (α := PV) (
                if r31.toBool = true then
                  some (.sc (.bool (decide (v__1 ≥ 1))))
                else
                  some (.sc (.bool false))) fun r32 =>
              Option.bind (α := PV) (
                Option.bind (α := PV) (
                  if r32.toBool = true then
                    some (.sc (.bool (decide (v__1 ≤ 7))))
                  else
                    some (.sc (.bool false))) fun r33 =>
                some (.sc (.bool r33.toBool))) fun r34 =>
              some (.sc (.bool r34.toBool))) fun r35 =>
            some (.sc (.bool r35.toBool))) fun r36 =>
          some (.sc (.bool r36.toBool))) fun r37 =>
        some (.sc (.bool r37.toBool))) fun r38 =>
      some (.sc (.bool r38.toBool))) fun r39 =>
  some (.sc (.bool r39.toBool)) :=
  (denI_eq k _ _).trans (by kernel_rfl)
-- oculus/oculusref08.May
theorem f56_eq (k : Nat) (x_ : Int) : D 56 [.sc (.int .i64 x_)] =
  some (.sc (.bool (decide (x_ ≥ (-9223372036854775807))))) :=
  (denI_eq k _ _).trans (by kernel_rfl)
-- oculus/oculuslaw12.alive
theorem f10_eq (k : Nat)  : D 10 [] =
  (D 57 [.sc (.string (⟨#[50, 46, 53, 48]⟩ : ByteArray))]).bind fun r1 => if hasSh (.agg [(.int .i64), (.int .i64), .str]) r1 = true then
  (D 11 [.agg [.sc (.int .i64 ((cel 0 r1.cells).toInt)), .sc (.int .i64 ((cel 1 r1.cells).toInt)), .sc (.string ((cel 2 r1.cells).toStr))]]).bind fun r2 => if hasSh (.agg [(.int .i64), (.int .i64), .str]) r2 = true then
  (D 58 [.sc (.int .i64 25000)]).bind fun r3 => if hasSh (.agg [(.int .i64), (.int .i64), .str]) r3 = true then
  Option.bind (α := PV) (
    if ((((cel 0 r2.cells).toInt) == ((cel 0 r3.cells).toInt)) && ((((cel 1 r2.cells).toInt) == ((cel 1 r3.cells).toInt)) && ((((cel 2 r2.cells).toStr).toList == ((cel 2 r3.cells).toStr).toList) && true))) = true then
      (D 57 [.sc (.string (⟨#[120]⟩ : ByteArray))]).bind fun r4 => if hasSh (.agg [(.int .i64), (.int .i64), .str]) r4 = true then
      Option.bind (α := PV) (
        (D 11 [.agg [.sc (.int .i64 ((cel 0 r4.cells).toInt)), .sc (.int .i64 ((cel 1 r4.cells).toInt)), .sc (.string ((cel 2 r4.cells).toStr))]]).bind fun r5 => if hasSh (.agg [(.int .i64), (.int .i64), .str]) r5 = true then
        Option.bind (α := PV) (
          (D 59 [.sc (.int .i64 2)]).bind fun r6 => if hasSh (.agg [(.int .i64), (.int .i64), .str]) r6 = true then
          some (.sc (.bool ((((cel 0 r5.cells).toInt) == ((cel 0 r6.cells).toInt)) && ((((cel 1 r5.cells).toInt) == ((cel 1 r6.cells).toInt)) && ((((cel 2 r5.cells).toStr).toList == ((cel 2 r6.cells).toStr).toList) && true)))))
          else none) fun r7 =>
        some (.sc (.bool r7.toBool))
        else none) fun r8 =>
      some (.sc (.bool r8.toBool))
      else none
    else
      some (.sc (.bool false))) fun r9 =>
  Option.bind (α := PV) (
    if r9.toBool = true then
      (D 58 [.sc (.int .i64 (-5000))]).bind fun r10 => if hasSh (.agg [(.int .i64), (.int .i64), .str]) r10 = true then
      Option.bind (α := PV) (
        (D 12 [.agg [.sc (.int .i64 ((cel 0 r10.cells).toInt)), .sc (.int .i64 ((cel 1 r10.cells).toInt)), .sc (.string ((cel 2 r10.cells).toStr))]]).bind fun r11 => if hasSh (.agg [(.int .i64), (.int .i64), .str]) r11 = true then
        Option.bind (α := PV) (
          (D 57 [.sc (.string (⟨#[45, 48, 46, 53]⟩ : ByteArray))]).bind fun r12 => if hasSh (.agg [(.int .i64), (.int .i64), .str]) r12 = true then
          some (.sc (.bool ((((cel 0 r11.cells).toInt) == ((cel 0 r12.cells).toInt)) && ((((cel 1 r11.cells).toInt) == ((cel 1 r12.cells).toInt)) && ((((cel 2 r11.cells).toStr).toList == ((cel 2 r12.cells).toStr).toList) && true)))))
          else none) fun r13 =>
        some (.sc (.bool r13.toBool))
        else none) fun r14 =>
      some (.sc (.bool r14.toBool))
      else none
    else
      some (.sc (.bool false))) fun r15 =>
  Option.bind (α := PV) (
    if r15.toBool = true then
      (D 58 [.sc (.int .i64 1)]).bind fun r16 => if hasSh (.agg [(.int .i64), (.int .i64), .str]) r16 = true then
      Option.bind (α := PV) (
        (D 13 [.agg [.sc (.int .i64 ((cel 0 r16.cells).toInt)), .sc (.int .i64 ((cel 1 r16.cells).toInt)), .sc (.string ((cel 2 r16.cells).toStr))]]).bind fun r17 => if hasSh (.agg [(.int .i64), (.int .i64), .str]) r17 = true then
        Option.bind (α := PV) (
          (D 60 [.sc (.bool true)]).bind fun r18 => if hasSh (.agg [(.int .i64), (.int .i64), .str]) r18 = true then
          some (.sc (.bool ((((cel 0 r17.cells).toInt) == ((cel 0 r18.cells).toInt)) && ((((cel 1 r17.cells).toInt) == ((cel 1 r18.cells).toInt)) && ((((cel 2 r17.cells).toStr).toList == ((cel 2 r18.cells).toStr).toList) && true)))))
          else none) fun r19 =>
        some (.sc (.bool r19.toBool))
        else none) fun r20 =>
      some (.sc (.bool r20.toBool))
      else none
    else
      some (.sc (.bool false))) fun r21 =>
  Option.bind (α := PV) (
    if r21.toBool = true then
      (D 58 [.sc (.int .i64 9)]).bind fun r22 => if hasSh (.agg [(.int .i64), (.int .i64), .str]) r22 = true then
      Option.bind (α := PV) (
        (D 57 [.sc (.string (⟨#[]⟩ : ByteArray))]).bind fun r23 => if hasSh (.agg [(.int .i64), (.int .i64), .str]) r23 = true then
        Option.bind (α := PV) (
          (D 61 [.agg [.sc (.int .i64 ((cel 0 r22.cells).toInt)), .sc (.int .i64 ((cel 1 r22.cells).toInt)), .sc (.string ((cel 2 r22.cells).toStr))], .agg [.sc (.int .i64 ((cel 0 r23.cells).toInt)), .sc (.int .i64 ((cel 1 r23.cells).toInt)), .sc (.string ((cel 2 r23.cells).toStr))]]).bind fun r24 => if hasSh (.int .i64) r24 = true then
          some (.sc (.bool (r24.toInt == (-1))))
          else none) fun r25 =>
        some (.sc (.bool r25.toBool))
        else none) fun r26 =>
      some (.sc (.bool r26.toBool))
      else none
    else
      some (.sc (.bool false))) fun r27 =>
  Option.bind (α := PV) (
    if r27.toBool = true then
      (D 57 [.sc (.string (⟨#[97, 34, 98]⟩ : ByteArray))]).bind fun r28 => if hasSh (.agg [(.int .i64), (.int .i64), .str]) r28 = true then
      Option.bind (α := PV) (
        (D 17 [.agg [.sc (.int .i64 ((cel 0 r28.cells).toInt)), .sc (.int .i64 ((cel 1 r28.cells).toInt)), .sc (.string ((cel 2 r28.cells).toStr))]]).bind fun r29 => if hasSh .str r29 = true then
        some (.sc (.bool (r29.toStr.toList == (⟨#[34, 97, 34, 34, 98, 34]⟩ : ByteArray).toList)))
        else none) fun r30 =>
      some (.sc (.bool r30.toBool))
      else none
    else
      some (.sc (.bool false))) fun r31 =>
  Option.bind (α := PV) (
    if r31.toBool = true then
      (D 59 [.sc (.int .i64 7)]).bind fun r32 => if hasSh (.agg [(.int .i64), (.int .i64), .str]) r32 = true then
      Option.bind (α := PV) (
        (D 17 [.agg [.sc (.int .i64 ((cel 0 r32.cells).toInt)), .sc (.int .i64 ((cel 1 r32.cells).toInt)), .sc (.string ((cel 2 r32.cells).toStr))]]).bind fun r33 => if hasSh .str r33 = true then
        some (.sc (.bool (r33.toStr.toList == (⟨#[35, 67, 89, 67, 76, 69]⟩ : ByteArray).toList)))
        else none) fun r34 =>
      some (.sc (.bool r34.toBool))
      else none
    else
      some (.sc (.bool false))) fun r35 =>
  some (.sc (.bool r35.toBool))
  else none
  else none
  else none :=
  (denI_eq k _ _).trans (by kernel_rfl)
-- oculus/value.AsNumber
theorem f11_eq (k : Nat) (v_ v__1 : Int) (v__2 : ByteArray) : D 11 [.agg [.sc (.int .i64 v_), .sc (.int .i64 v__1), .sc (.string v__2)]] =
  if (v_ == 0) = true then
    (D 58 [.sc (.int .i64 0)]).bind fun r1 => if hasSh (.agg [(.int .i64), (.int .i64), .str]) r1 = true then
    some (.agg [.sc (.int .i64 ((cel 0 r1.cells).toInt)), .sc (.int .i64 ((cel 1 r1.cells).toInt)), .sc (.string ((cel 2 r1.cells).toStr))])
    else none
  else
    if (v_ == 3) = true then
      (D 58 [.sc (.int .i64 (IntKind.i64.wrap (v__1 * 10000)))]).bind fun r2 => if hasSh (.agg [(.int .i64), (.int .i64), .str]) r2 = true then
      some (.agg [.sc (.int .i64 ((cel 0 r2.cells).toInt)), .sc (.int .i64 ((cel 1 r2.cells).toInt)), .sc (.string ((cel 2 r2.cells).toStr))])
      else none
    else
      if (v_ == 2) = true then
        (D 62 [.sc (.string v__2)]).bind fun r3 => if hasSh (.tup [(.int .i64), .bool]) r3 = true then
        if (cel 1 r3.parts).toBool = true then
          (D 58 [.sc (.int .i64 ((cel 0 r3.parts).toInt))]).bind fun r4 => if hasSh (.agg [(.int .i64), (.int .i64), .str]) r4 = true then
          some (.agg [.sc (.int .i64 ((cel 0 r4.cells).toInt)), .sc (.int .i64 ((cel 1 r4.cells).toInt)), .sc (.string ((cel 2 r4.cells).toStr))])
          else none
        else
          (D 59 [.sc (.int .i64 2)]).bind fun r5 => if hasSh (.agg [(.int .i64), (.int .i64), .str]) r5 = true then
          some (.agg [.sc (.int .i64 ((cel 0 r5.cells).toInt)), .sc (.int .i64 ((cel 1 r5.cells).toInt)), .sc (.string ((cel 2 r5.cells).toStr))])
          else none
        else none
      else
        some (.agg [.sc (.int .i64 v_), .sc (.int .i64 v__1), .sc (.string v__2)]) :=
  (denI_eq k _ _).trans (by kernel_rfl)
-- oculus/value.Num
theorem f58_eq (k : Nat) (x_ : Int) : D 58 [.sc (.int .i64 x_)] =
  (D 99 [.agg [.sc (.int .i64 1), .sc (.int .i64 x_), .sc (.string (⟨#[]⟩ : ByteArray))], .sc (.int .i64 4)]).bind fun r1 => if hasSh (.agg [(.int .i64), (.int .i64), .str]) r1 = true then
  some (.agg [.sc (.int .i64 ((cel 0 r1.cells).toInt)), .sc (.int .i64 ((cel 1 r1.cells).toInt)), .sc (.string ((cel 2 r1.cells).toStr))])
  else none :=
  (denI_eq k _ _).trans (by kernel_rfl)
-- oculus/value.made
theorem f99_eq (k : Nat) (v_ v__1 : Int) (v__2 : ByteArray) (code : Int) : D 99 [.agg [.sc (.int .i64 v_), .sc (.int .i64 v__1), .sc (.string v__2)], .sc (.int .i64 code)] =
  (D 134 [.agg [.sc (.int .i64 v_), .sc (.int .i64 v__1), .sc (.string v__2)]]).bind fun r1 => if hasSh .bool r1 = true then
  if (!r1.toBool) = true then
    some (.agg [.sc (.int .i64 4), .sc (.int .i64 code), .sc (.string (⟨#[]⟩ : ByteArray))])
  else
    some (.agg [.sc (.int .i64 v_), .sc (.int .i64 v__1), .sc (.string v__2)])
  else none :=
  (denI_eq k _ _).trans (by kernel_rfl)
-- oculus/value.May
theorem f134_eq (k : Nat) (v_ v__1 : Int) (v__2 : ByteArray) : D 134 [.agg [.sc (.int .i64 v_), .sc (.int .i64 v__1), .sc (.string v__2)]] =
  if (v_ == 0) = true then
    Option.bind (α := PV) (
      if (v__1 == 0) = true then
        some (.sc (.bool (v__2.toList == (⟨#[]⟩ : ByteArray).toList)))
      else
        some (.sc (.bool false))) fun r1 =>
    some (.sc (.bool r1.toBool))
  else
    if (v_ == 1) = true then
      (D 106 [.sc (.int .i64 v__1)]).bind fun r2 => if hasSh .bool r2 = true then
      Option.bind (α := PV) (
        if r2.toBool = true then
          some (.sc (.bool (v__2.toList == (⟨#[]⟩ : ByteArray).toList)))
        else
          some (.sc (.bool false))) fun r3 =>
      some (.sc (.bool r3.toBool))
      else none
    else
      if (v_ == 2) = true then
        Option.bind (α := PV) (
          if (v__1 == 0) = true then
            some (.sc (.bool (decide ((v__2.size : Int) ≤ 256))))
          else
            some (.sc (.bool false))) fun r4 =>
        some (.sc (.bool r4.toBool))
      else
        if (v_ == 3) = true then
          Option.bind (α := PV) (
            if (v__1 == 0) = true then
              some (.sc (.bool true))
            else
              some (.sc (.bool (v__1 == 1)))) fun r5 =>
          Option.bind (α := PV) (
            if r5.toBool = true then
              some (.sc (.bool (v__2.toList == (⟨#[]⟩ : ByteArray).toList)))
            else
              some (.sc (.bool false))) fun r6 =>
          some (.sc (.bool r6.toBool))
        else
          if (v_ == 4) = true then
            Option.bind (α := PV) (
              if decide (v__1 ≥ 1) = true then
                some (.sc (.bool (decide (v__1 ≤ 7))))
              else
                some (.sc (.bool false))) fun r7 =>
            Option.bind (α := PV) (
              if r7.toBool = true then
                some (.sc (.bool (v__2.toList == (⟨#[]⟩ : ByteArray).toList)))
              else
                some (.sc (.bool false))) fun r8 =>
            some (.sc (.bool r8.toBool))
          else
            some (.sc (.bool false)) :=
  (denI_eq k _ _).trans (by kernel_rfl)
-- oculus/dec.May
theorem f106_eq (k : Nat) (x_ : Int) : D 106 [.sc (.int .i64 x_)] =
  some (.sc (.bool (x_ != (-9223372036854775808)))) :=
  (denI_eq k _ _).trans (by kernel_rfl)
-- oculus/value.Bad
theorem f59_eq (k : Nat) (code : Int) : D 59 [.sc (.int .i64 code)] =
  (D 99 [.agg [.sc (.int .i64 4), .sc (.int .i64 code), .sc (.string (⟨#[]⟩ : ByteArray))], .sc (.int .i64 2)]).bind fun r1 => if hasSh (.agg [(.int .i64), (.int .i64), .str]) r1 = true then
  some (.agg [.sc (.int .i64 ((cel 0 r1.cells).toInt)), .sc (.int .i64 ((cel 1 r1.cells).toInt)), .sc (.string ((cel 2 r1.cells).toStr))])
  else none :=
  (denI_eq k _ _).trans (by kernel_rfl)
-- oculus/digits.Read
noncomputable def f62.l0a (k : Nat) (minus : Bool) (x_ y t53 t54 : Int) : Option PV := loopAt Tryz.prog cf ext hint k 62 [1, 1, 1, 1, 1, 1, 1, 0, 1, 0] ⟨[.top, .top, .top, .top, .top, .sc (.bool minus), .top, .top, .top, .sc (.int .i64 x_), .top, .sc (.int .i64 y), .top, .top, .top, .top, .top, .top, .top, .top, .top, .top, .top, .top, .top, .top, .top, .top, .top, .top, .top, .top, .top, .top, .top, .top, .top, .top, .top, .top, .top, .top, .top, .top, .top, .top, .top, .top, .top, .top, .top, .top, .top, .sc (.int .i64 t53), .sc (.int .i64 t54), .top, .top, .top, .top, .top, .top, .top, .top, .top, .top], [], none⟩
theorem f62_eq (k : Nat) (t : ByteArray) : D 62 [.sc (.string t)] =
  (D 84 [.sc (.string t), .sc (.string (⟨#[45]⟩ : ByteArray))]).bind fun r1 => if hasSh (.tup [.str, .bool]) r1 = true then
  if decide ((t.size : Int) > 40) = true then
    some (.tup [.sc (.int .i64 0), .sc (.bool false)])
  else
    (D 103 [.sc (.string ((cel 0 r1.parts).toStr)), .sc (.string (⟨#[46]⟩ : ByteArray))]).bind fun r2 => if hasSh (.tup [.str, .str, .bool]) r2 = true then
    (D 104 [.sc (.string ((cel 0 r2.parts).toStr))]).bind fun r3 => if hasSh (.tup [(.int .i64), .bool]) r3 = true then
    (D 104 [.sc (.string ((cel 1 r2.parts).toStr))]).bind fun r4 => if hasSh (.tup [(.int .i64), .bool]) r4 = true then
    Option.bind (α := PV) (
      if (!((cel 1 r3.parts).toBool)) = true then
        some (.sc (.bool true))
      else
        Option.bind (α := PV) (
          Option.bind (α := PV) (
            if (cel 2 r2.parts).toBool = true then
              Option.bind (α := PV) (
                Option.bind (α := PV) (
                  Option.bind (α := PV) (
                    if (!((cel 1 r4.parts).toBool)) = true then
                      some (.sc (.bool true))
                    else
                      some (.sc (.bool (decide ((((cel 1 r2.parts).toStr).size : Int) > 4))))) fun r5 =>
                  some (.sc (.bool r5.toBool))) fun r6 =>
                some (.sc (.bool r6.toBool))) fun r7 =>
              some (.sc (.bool r7.toBool))
            else
              some (.sc (.bool false))) fun r8 =>
          some (.sc (.bool r8.toBool))) fun r9 =>
        some (.sc (.bool r9.toBool))) fun r10 =>
    if r10.toBool = true then
      some (.tup [.sc (.int .i64 0), .sc (.bool false)])
    else
      f62.l0a k ((cel 1 r1.parts).toBool) ((cel 0 r3.parts).toInt) ((cel 0 r4.parts).toInt) (IntKind.i64.wrap ((4 : Int) - (((cel 1 r2.parts).toStr).size : Int))) 0
    else none
    else none
    else none
  else none :=
  (denI_eq k _ _).trans (by kernel_rfl)
theorem f62.l0a_eq (k : Nat) (minus : Bool) (x_ y t53 t54 : Int) : f62.l0a k minus x_ y t53 t54 =
  if decide (t54 < t53) = true then
    f62.l0a k minus x_ (IntKind.i64.wrap (y * 10)) t53 (IntKind.i64.wrap (t54 + 1))
  else
    (D 105 [.sc (.int .i64 x_), .sc (.int .i64 y), .sc (.bool minus)]).bind fun r11 => if hasSh (.tup [(.int .i64), .bool]) r11 = true then
    some (.tup [.sc (.int .i64 ((cel 0 r11.parts).toInt)), .sc (.bool ((cel 1 r11.parts).toBool))])
    else none :=
  (loopAt_eq _ _ _ _).trans (by kernel_rfl)
-- oculus/digits.number
noncomputable def f104.l0a (k : Nat) (t : ByteArray) (n_ t11 t12 : Int) : Option PV := loopAt Tryz.prog cf ext hint k 104 [1, 1, 0, 1, 0] ⟨[.sc (.string t), .top, .top, .top, .sc (.int .i64 n_), .top, .top, .top, .top, .top, .top, .sc (.int .i64 t11), .sc (.int .i64 t12), .top, .top, .top, .top, .top, .top, .top, .top, .top, .top, .top, .top, .top, .top, .top, .top, .top, .top, .top, .top, .top, .top, .top, .top, .top, .top, .top, .top, .top, .top, .top, .top, .top, .top, .top, .top, .top, .top], [], none⟩
theorem f104_eq (k : Nat) (t : ByteArray) : D 104 [.sc (.string t)] =
  f104.l0a k t 0 (t.size : Int) 0 :=
  (denI_eq k _ _).trans (by kernel_rfl)
theorem f104.l0a_eq (k : Nat) (t : ByteArray) (n_ t11 t12 : Int) : f104.l0a k t n_ t11 t12 =
  if decide (t12 < t11) = true then
    if 0 ≤ t12 then
      if t12 < (t.size : Int) then
        Option.bind (α := PV) (
          if decide ((bt t t12) < 48) = true then
            some (.sc (.bool true))
          else
            Option.bind (α := PV) (
              Option.bind (α := PV) (
                if 0 ≤ t12 then
                  if t12 < (t.size : Int) then
                    some (.sc (.bool (decide ((bt t t12) > 57))))
                  else none
                else none) fun r1 =>
              some (.sc (.bool r1.toBool))) fun r2 =>
            some (.sc (.bool r2.toBool))) fun r3 =>
        if r3.toBool = true then
          some (.tup [.sc (.int .i64 0), .sc (.bool false)])
        else
          (D 137 [.sc (.int .i64 n_), .sc (.int .i64 10), .sc (.int .i64 1)]).bind fun r4 => if hasSh (.tup [(.int .i64), .bool]) r4 = true then
          if 0 ≤ t12 then
            if t12 < (t.size : Int) then
              (D 138 [.sc (.int .i64 ((cel 0 r4.parts).toInt)), .sc (.int .i64 (IntKind.i64.wrap (IntKind.u8.wrap ((bt t t12) - 48))))]).bind fun r5 => if hasSh (.tup [(.int .i64), .bool]) r5 = true then
              Option.bind (α := PV) (
                if (!((cel 1 r4.parts).toBool)) = true then
                  some (.sc (.bool true))
                else
                  some (.sc (.bool (!((cel 1 r5.parts).toBool))))) fun r6 =>
              if r6.toBool = true then
                some (.tup [.sc (.int .i64 0), .sc (.bool false)])
              else
                f104.l0a k t ((cel 0 r5.parts).toInt) t11 (IntKind.i64.wrap (t12 + 1))
              else none
            else none
          else none
          else none
      else none
    else none
  else
    some (.tup [.sc (.int .i64 n_), .sc (.bool (!(t.toList == (⟨#[]⟩ : ByteArray).toList)))]) :=
  (loopAt_eq _ _ _ _).trans (by kernel_rfl)
-- oculus/dec.Scaled
noncomputable def f137.j0a (k : Nat) (a b c q : Int) : Option PV := gateK k (placeAt Tryz.prog cf ext hint k 137 [1, 1, 1, 1, 1, 1, 1]) ⟨[.sc (.int .i64 a), .sc (.int .i64 b), .sc (.int .i64 c), .top, .top, .top, .top, .top, .top, .top, .top, .sc (.int .u64 q), .top, .top, .top, .top, .top, .top, .top, .top, .top, .top, .top, .top, .top, .top, .top, .top, .top, .top, .top, .top, .top, .top, .top, .top, .top, .top, .top, .top, .top, .top, .top, .top, .top, .top, .top, .top, .top, .top, .top, .top, .top, .top, .top, .top, .top, .top, .top, .top, .top, .top, .top, .top, .top, .top, .top, .top, .top, .top, .top, .top, .top], [], none⟩
theorem f137_eq (k : Nat) (a b c : Int) : D 137 [.sc (.int .i64 a), .sc (.int .i64 b), .sc (.int .i64 c)] =
  (D 106 [.sc (.int .i64 a)]).bind fun r1 => if hasSh .bool r1 = true then
  Option.bind (α := PV) (
    if (!r1.toBool) = true then
      some (.sc (.bool true))
    else
      Option.bind (α := PV) (
        (D 106 [.sc (.int .i64 b)]).bind fun r2 => if hasSh .bool r2 = true then
        some (.sc (.bool (!r2.toBool)))
        else none) fun r3 =>
      some (.sc (.bool r3.toBool))) fun r4 =>
  Option.bind (α := PV) (
    if r4.toBool = true then
      some (.sc (.bool true))
    else
      Option.bind (α := PV) (
        (D 106 [.sc (.int .i64 c)]).bind fun r5 => if hasSh .bool r5 = true then
        some (.sc (.bool (!r5.toBool)))
        else none) fun r6 =>
      some (.sc (.bool r6.toBool))) fun r7 =>
  Option.bind (α := PV) (
    if r7.toBool = true then
      some (.sc (.bool true))
    else
      some (.sc (.bool (c == 0)))) fun r8 =>
  if r8.toBool = true then
    some (.tup [.sc (.int .i64 0), .sc (.bool false)])
  else
    (D 167 [.sc (.int .i64 c)]).bind fun r9 => if hasSh (.int .u64) r9 = true then
    (D 167 [.sc (.int .i64 a)]).bind fun r10 => if hasSh (.int .u64) r10 = true then
    (D 167 [.sc (.int .i64 b)]).bind fun r11 => if hasSh (.int .u64) r11 = true then
    (D 168 [.sc (.int .u64 r10.toInt), .sc (.int .u64 r11.toInt)]).bind fun r12 => if hasSh (.tup [(.int .u64), (.int .u64)]) r12 = true then
    if decide (((cel 0 r12.parts).toInt) ≥ r9.toInt) = true then
      some (.tup [.sc (.int .i64 0), .sc (.bool false)])
    else
      (D 169 [.sc (.int .u64 ((cel 0 r12.parts).toInt)), .sc (.int .u64 ((cel 1 r12.parts).toInt)), .sc (.int .u64 r9.toInt)]).bind fun r13 => if hasSh (.tup [(.int .u64), (.int .u64)]) r13 = true then
      if decide (((cel 1 r13.parts).toInt) ≥ (IntKind.u64.wrap (r9.toInt - ((cel 1 r13.parts).toInt)))) = true then
        f137.j0a k a b c (IntKind.u64.wrap (((cel 0 r13.parts).toInt) + 1))
      else
        f137.j0a k a b c ((cel 0 r13.parts).toInt)
      else none
    else none
    else none
    else none
    else none
  else none :=
  (denI_eq k _ _).trans (by kernel_rfl)
theorem f137.j0a_eq (k : Nat) (a b c q : Int) : f137.j0a k a b c q =
  if decide (q > 9223372036854775807) = true then
    some (.tup [.sc (.int .i64 0), .sc (.bool false)])
  else
    (D 101 [.sc (.int .i64 a)]).bind fun r14 => if hasSh (.int .i64) r14 = true then
    (D 101 [.sc (.int .i64 b)]).bind fun r15 => if hasSh (.int .i64) r15 = true then
    (D 101 [.sc (.int .i64 c)]).bind fun r16 => if hasSh (.int .i64) r16 = true then
    if decide ((IntKind.i64.wrap ((IntKind.i64.wrap (r14.toInt * r15.toInt)) * r16.toInt)) < 0) = true then
      some (.tup [.sc (.int .i64 (IntKind.i64.wrap (0 - (IntKind.i64.wrap (q))))), .sc (.bool true)])
    else
      some (.tup [.sc (.int .i64 (IntKind.i64.wrap (q))), .sc (.bool true)])
    else none
    else none
    else none :=
  (gateK_open _ _ _).trans (by kernel_rfl)
-- oculus/dec.Sign
theorem f101_eq (k : Nat) (x_ : Int) : D 101 [.sc (.int .i64 x_)] =
  if decide (x_ < 0) = true then
    some (.sc (.int .i64 (-1)))
  else
    if decide (x_ > 0) = true then
      some (.sc (.int .i64 1))
    else
      some (.sc (.int .i64 0)) :=
  (denI_eq k _ _).trans (by kernel_rfl)
-- oculus/dec.size
theorem f167_eq (k : Nat) (x_ : Int) : D 167 [.sc (.int .i64 x_)] =
  if decide (x_ < 0) = true then
    some (.sc (.int .u64 (IntKind.u64.wrap (IntKind.i64.wrap (0 - x_)))))
  else
    some (.sc (.int .u64 (IntKind.u64.wrap (x_)))) :=
  (denI_eq k _ _).trans (by kernel_rfl)
-- math/bits.Mul64
theorem f168_eq (k : Nat) (x_ y : Int) : D 168 [.sc (.int .u64 x_), .sc (.int .u64 y)] =
  some (.tup [.sc (.int .u64 (IntKind.u64.wrap ((IntKind.u64.wrap ((IntKind.u64.wrap ((x_.fdiv 4294967296) * (y.fdiv 4294967296))) + ((IntKind.u64.wrap ((IntKind.u64.wrap ((x_.fdiv 4294967296) * (bits .and .u64 y 4294967295))) + ((IntKind.u64.wrap ((bits .and .u64 x_ 4294967295) * (bits .and .u64 y 4294967295))).fdiv 4294967296))).fdiv 4294967296))) + ((IntKind.u64.wrap ((bits .and .u64 (IntKind.u64.wrap ((IntKind.u64.wrap ((x_.fdiv 4294967296) * (bits .and .u64 y 4294967295))) + ((IntKind.u64.wrap ((bits .and .u64 x_ 4294967295) * (bits .and .u64 y 4294967295))).fdiv 4294967296))) 4294967295) + (IntKind.u64.wrap ((bits .and .u64 x_ 4294967295) * (y.fdiv 4294967296))))).fdiv 4294967296)))), .sc (.int .u64 (IntKind.u64.wrap (x_ * y)))]) :=
  (denI_eq k _ _).trans (by kernel_rfl)
end EV
end Go.Den
