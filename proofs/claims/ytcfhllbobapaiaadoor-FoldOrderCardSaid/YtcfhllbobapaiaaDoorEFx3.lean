import Derived.Test.YtcfhllbobapaiaaDoorEFh
import Derived.KernelRfl
set_option maxRecDepth 100000
set_option linter.unusedVariables false
namespace Go.Den
open Go Go.Proofs
namespace EF
-- oculus/oculuslaw15.FoldOrder
noncomputable def f9.l0a (k : Nat) (ln : Nat) (lf : Nat → PV) (t13 t14 : Int) : Option PV := loopAt Tryd.prog cf ext hint k 9 [1, 1, 1, 0, 1, 0] ⟨[.lst 3 ln lf, .top, .top, .nils, .top, .top, .top, .top, .top, .top, .top, .top, .top, .sc (.int .i64 t13), .sc (.int .i64 t14), .top, .top, .top, .top, .top, .top, .top, .top, .top, .top, .top, .top, .top, .top, .top, .top, .top, .top, .top, .top, .top, .top, .top, .top, .top, .top, .top, .top, .top, .top, .top, .top, .top, .top, .top, .top, .top, .top, .top, .top, .top, .top, .top, .top, .top, .top, .top, .top, .top, .top, .top, .top, .top, .top, .top, .top, .top, .top, .top, .top, .top, .top, .top, .top, .top, .top, .top, .top, .top, .top, .top, .top, .top, .top, .top, .top, .top, .top, .top, .top, .top, .top, .top, .top, .top, .top, .top, .top, .top, .top, .top, .top, .top, .top, .top], [], none⟩
noncomputable def f9.l0b (k : Nat) (ln : Nat) (lf : Nat → PV) (t13 t14 : Int) (back : List PV) : Option PV := loopAt Tryd.prog cf ext hint k 9 [1, 1, 1, 0, 1, 0] ⟨[.lst 3 ln lf, .top, .top, .buf 0 0, .top, .top, .top, .top, .top, .top, .top, .top, .top, .sc (.int .i64 t13), .sc (.int .i64 t14), .top, .top, .top, .top, .top, .top, .top, .top, .top, .top, .top, .top, .top, .top, .top, .top, .top, .top, .top, .top, .top, .top, .top, .top, .top, .top, .top, .top, .top, .top, .top, .top, .top, .top, .top, .top, .top, .top, .top, .top, .top, .top, .top, .top, .top, .top, .top, .top, .top, .top, .top, .top, .top, .top, .top, .top, .top, .top, .top, .top, .top, .top, .top, .top, .top, .top, .top, .top, .top, .top, .top, .top, .top, .top, .top, .top, .top, .top, .top, .top, .top, .top, .top, .top, .top, .top, .top, .top, .top, .top, .top, .top, .top, .top, .top], [.buf 51 0 back], none⟩
theorem f9_eq (k : Nat) (ln : Nat) (lf : Nat → PV) : D 9 [.lst 3 ln lf] =
  (D 32 [.lst 3 ln lf, .sc (.int .i64 200)]).bind fun r1 => if hasSh .bool r1 = true then
  if (!r1.toBool) = true then
    (D 33 []).bind fun r2 => if hasSh .bool r2 = true then
    some (.sc (.bool r2.toBool))
    else none
  else
    f9.l0a k ln lf (ln : Int) 0
  else none :=
  (denI_eq k _ _).trans (by kernel_rfl)
theorem f9.l0a_eq (k : Nat) (ln : Nat) (lf : Nat → PV) (t13 t14 : Int) : f9.l0a k ln lf t13 t14 =
  if decide (t14 < t13) = true then
    if 0 ≤ IntKind.i64.wrap ((IntKind.i64.wrap ((ln : Int) - 1)) - t14) then
      if IntKind.i64.wrap ((IntKind.i64.wrap ((ln : Int) - 1)) - t14) < (ln : Int) then
        if hasSh (.agg [(.int .i64), (.int .i64), .str]) (lf (IntKind.i64.wrap ((IntKind.i64.wrap ((ln : Int) - 1)) - t14)).toNat) = true then
          if ([.agg [.sc (.int .i64 ((cel 0 (lf (IntKind.i64.wrap ((IntKind.i64.wrap ((ln : Int) - 1)) - t14)).toNat).cells).toInt)), .sc (.int .i64 ((cel 1 (lf (IntKind.i64.wrap ((IntKind.i64.wrap ((ln : Int) - 1)) - t14)).toNat).cells).toInt)), .sc (.string ((cel 2 (lf (IntKind.i64.wrap ((IntKind.i64.wrap ((ln : Int) - 1)) - t14)).toNat).cells).toStr))]] : List PV).length * 32 ≤ 140737488355328 ∧ ([.agg [.sc (.int .i64 ((cel 0 (lf (IntKind.i64.wrap ((IntKind.i64.wrap ((ln : Int) - 1)) - t14)).toNat).cells).toInt)), .sc (.int .i64 ((cel 1 (lf (IntKind.i64.wrap ((IntKind.i64.wrap ((ln : Int) - 1)) - t14)).toNat).cells).toInt)), .sc (.string ((cel 2 (lf (IntKind.i64.wrap ((IntKind.i64.wrap ((ln : Int) - 1)) - t14)).toNat).cells).toStr))]] : List PV).length ≤ 140737488355328 then
            f9.l0b k ln lf t13 (IntKind.i64.wrap (t14 + 1)) ([.agg [.sc (.int .i64 ((cel 0 (lf (IntKind.i64.wrap ((IntKind.i64.wrap ((ln : Int) - 1)) - t14)).toNat).cells).toInt)), .sc (.int .i64 ((cel 1 (lf (IntKind.i64.wrap ((IntKind.i64.wrap ((ln : Int) - 1)) - t14)).toNat).cells).toInt)), .sc (.string ((cel 2 (lf (IntKind.i64.wrap ((IntKind.i64.wrap ((ln : Int) - 1)) - t14)).toNat).cells).toStr))]] : List PV)
          else none
        else none
      else none
    else none
  else
    (D 41 [.lst 3 ln lf]).bind fun r3 => if hasSh (.int .i64) r3 = true then
    if decide (r3.toInt ≥ 0) = true then
      (D 41 [.lst 3 0 (fun _ => .top)]).bind fun r4 => if hasSh (.int .i64) r4 = true then
      (D 42 [.lst 3 0 (fun _ => .top)]).bind fun r5 => if hasSh (.agg [(.int .i64), (.int .i64), .str]) r5 = true then
      if 0 ≤ r4.toInt then
        if r4.toInt < ((0 : Nat) : Int) then none else none
      else none
      else none
      else none
    else
      (D 42 [.lst 3 ln lf]).bind fun r6 => if hasSh (.agg [(.int .i64), (.int .i64), .str]) r6 = true then
      (D 42 [.lst 3 0 (fun _ => .top)]).bind fun r7 => if hasSh (.agg [(.int .i64), (.int .i64), .str]) r7 = true then
      Option.bind (α := PV) (
        if (((cel 0 r6.cells).toInt) == 1) = true then
          some (.sc (.bool (((cel 0 r7.cells).toInt) == 1)))
        else
          some (.sc (.bool false))) fun r8 =>
      Option.bind (α := PV) (
        if r8.toBool = true then
          some (.sc (.bool (!((((cel 0 r6.cells).toInt) == ((cel 0 r7.cells).toInt)) && ((((cel 1 r6.cells).toInt) == ((cel 1 r7.cells).toInt)) && ((((cel 2 r6.cells).toStr).toList == ((cel 2 r7.cells).toStr).toList) && true))))))
        else
          some (.sc (.bool false))) fun r9 =>
      if r9.toBool = true then
        some (.sc (.bool false))
      else
        (D 34 [.lst 3 0 (fun _ => .top)]).bind fun r10 => if hasSh (.agg [(.int .i64), (.int .i64), .str]) r10 = true then
        (D 34 [.lst 3 ln lf]).bind fun r11 => if hasSh (.agg [(.int .i64), (.int .i64), .str]) r11 = true then
        Option.bind (α := PV) (
          if ((((cel 0 r10.cells).toInt) == ((cel 0 r11.cells).toInt)) && ((((cel 1 r10.cells).toInt) == ((cel 1 r11.cells).toInt)) && ((((cel 2 r10.cells).toStr).toList == ((cel 2 r11.cells).toStr).toList) && true))) = true then
            Option.bind (α := PV) (
              (D 36 [.lst 3 0 (fun _ => .top)]).bind fun r12 => if hasSh (.agg [(.int .i64), (.int .i64), .str]) r12 = true then
              Option.bind (α := PV) (
                Option.bind (α := PV) (
                  (D 36 [.lst 3 ln lf]).bind fun r13 => if hasSh (.agg [(.int .i64), (.int .i64), .str]) r13 = true then
                  some (.sc (.bool ((((cel 0 r12.cells).toInt) == ((cel 0 r13.cells).toInt)) && ((((cel 1 r12.cells).toInt) == ((cel 1 r13.cells).toInt)) && ((((cel 2 r12.cells).toStr).toList == ((cel 2 r13.cells).toStr).toList) && true)))))
                  else none) fun r14 =>
                some (.sc (.bool r14.toBool))) fun r15 =>
              some (.sc (.bool r15.toBool))
              else none) fun r16 =>
            some (.sc (.bool r16.toBool))
          else
            some (.sc (.bool false))) fun r17 =>
        Option.bind (α := PV) (
          if r17.toBool = true then
            Option.bind (α := PV) (
              (D 39 [.lst 3 0 (fun _ => .top), .sc (.int .i64 0)]).bind fun r18 => if hasSh (.int .i64) r18 = true then
              Option.bind (α := PV) (
                Option.bind (α := PV) (
                  (D 39 [.lst 3 ln lf, .sc (.int .i64 0)]).bind fun r19 => if hasSh (.int .i64) r19 = true then
                  some (.sc (.bool (r18.toInt == r19.toInt)))
                  else none) fun r20 =>
                some (.sc (.bool r20.toBool))) fun r21 =>
              some (.sc (.bool r21.toBool))
              else none) fun r22 =>
            some (.sc (.bool r22.toBool))
          else
            some (.sc (.bool false))) fun r23 =>
        Option.bind (α := PV) (
          if r23.toBool = true then
            (D 33 []).bind fun r24 => if hasSh .bool r24 = true then
            some (.sc (.bool r24.toBool))
            else none
          else
            some (.sc (.bool false))) fun r25 =>
        some (.sc (.bool r25.toBool))
        else none
        else none
      else none
      else none
    else none :=
  (loopAt_eq _ _ _ _).trans (by kernel_rfl)
theorem f9.l0b_eq (k : Nat) (ln : Nat) (lf : Nat → PV) (t13 t14 : Int) (back : List PV) : f9.l0b k ln lf t13 t14 back =
  if decide (t14 < t13) = true then
    if 0 ≤ IntKind.i64.wrap ((IntKind.i64.wrap ((ln : Int) - 1)) - t14) then
      if IntKind.i64.wrap ((IntKind.i64.wrap ((ln : Int) - 1)) - t14) < (ln : Int) then
        if hasSh (.agg [(.int .i64), (.int .i64), .str]) (lf (IntKind.i64.wrap ((IntKind.i64.wrap ((ln : Int) - 1)) - t14)).toNat) = true then
          if (back.length + ([.agg [.sc (.int .i64 ((cel 0 (lf (IntKind.i64.wrap ((IntKind.i64.wrap ((ln : Int) - 1)) - t14)).toNat).cells).toInt)), .sc (.int .i64 ((cel 1 (lf (IntKind.i64.wrap ((IntKind.i64.wrap ((ln : Int) - 1)) - t14)).toNat).cells).toInt)), .sc (.string ((cel 2 (lf (IntKind.i64.wrap ((IntKind.i64.wrap ((ln : Int) - 1)) - t14)).toNat).cells).toStr))]] : List PV).length) * 32 ≤ 140737488355328 ∧ back.length + ([.agg [.sc (.int .i64 ((cel 0 (lf (IntKind.i64.wrap ((IntKind.i64.wrap ((ln : Int) - 1)) - t14)).toNat).cells).toInt)), .sc (.int .i64 ((cel 1 (lf (IntKind.i64.wrap ((IntKind.i64.wrap ((ln : Int) - 1)) - t14)).toNat).cells).toInt)), .sc (.string ((cel 2 (lf (IntKind.i64.wrap ((IntKind.i64.wrap ((ln : Int) - 1)) - t14)).toNat).cells).toStr))]] : List PV).length ≤ 140737488355328 then
            f9.l0b k ln lf t13 (IntKind.i64.wrap (t14 + 1)) (back ++ ([.agg [.sc (.int .i64 ((cel 0 (lf (IntKind.i64.wrap ((IntKind.i64.wrap ((ln : Int) - 1)) - t14)).toNat).cells).toInt)), .sc (.int .i64 ((cel 1 (lf (IntKind.i64.wrap ((IntKind.i64.wrap ((ln : Int) - 1)) - t14)).toNat).cells).toInt)), .sc (.string ((cel 2 (lf (IntKind.i64.wrap ((IntKind.i64.wrap ((ln : Int) - 1)) - t14)).toNat).cells).toStr))]] : List PV))
          else none
        else none
      else none
    else none
  else
    (D 41 [.lst 3 ln lf]).bind fun r26 => if hasSh (.int .i64) r26 = true then
    if decide (r26.toInt ≥ 0) = true then
      (D 41 [frozen 3 back]).bind fun r27 => if hasSh (.int .i64) r27 = true then
      (D 42 [frozen 3 back]).bind fun r28 => if hasSh (.agg [(.int .i64), (.int .i64), .str]) r28 = true then
      if 0 ≤ r27.toInt then
        if r27.toInt < (back.length : Int) then
          if hasSh (.agg [(.int .i64), (.int .i64), .str]) (back.getD r27.toInt.toNat .top) = true then
            Option.bind (α := PV) (
              if ((((cel 0 r28.cells).toInt) == ((cel 0 (back.getD r27.toInt.toNat .top).cells).toInt)) && ((((cel 1 r28.cells).toInt) == ((cel 1 (back.getD r27.toInt.toNat .top).cells).toInt)) && ((((cel 2 r28.cells).toStr).toList == ((cel 2 (back.getD r27.toInt.toNat .top).cells).toStr).toList) && true))) = true then
                Option.bind (α := PV) (
                  (D 34 [frozen 3 back]).bind fun r29 => if hasSh (.agg [(.int .i64), (.int .i64), .str]) r29 = true then
                  Option.bind (α := PV) (
                    Option.bind (α := PV) (
                      Option.bind (α := PV) (
                        if 0 ≤ r27.toInt then
                          if r27.toInt < (back.length : Int) then
                            if hasSh (.agg [(.int .i64), (.int .i64), .str]) (back.getD r27.toInt.toNat .top) = true then
                              some (.sc (.bool ((((cel 0 r29.cells).toInt) == ((cel 0 (back.getD r27.toInt.toNat .top).cells).toInt)) && ((((cel 1 r29.cells).toInt) == ((cel 1 (back.getD r27.toInt.toNat .top).cells).toInt)) && ((((cel 2 r29.cells).toStr).toList == ((cel 2 (back.getD r27.toInt.toNat .top).cells).toStr).toList) && true)))))
                            else none
                          else none
                        else none) fun r30 =>
                      some (.sc (.bool r30.toBool))) fun r31 =>
                    some (.sc (.bool r31.toBool))) fun r32 =>
                  some (.sc (.bool r32.toBool))
                  else none) fun r33 =>
                some (.sc (.bool r33.toBool))
              else
                some (.sc (.bool false))) fun r34 =>
            Option.bind (α := PV) (
              if r34.toBool = true then
                Option.bind (α := PV) (
                  (D 37 [frozen 3 back]).bind fun r35 => if hasSh (.agg [(.int .i64), (.int .i64), .str]) r35 = true then
                  Option.bind (α := PV) (
                    Option.bind (α := PV) (
                      Option.bind (α := PV) (
                        if 0 ≤ r27.toInt then
                          if r27.toInt < (back.length : Int) then
                            if hasSh (.agg [(.int .i64), (.int .i64), .str]) (back.getD r27.toInt.toNat .top) = true then
                              some (.sc (.bool ((((cel 0 r35.cells).toInt) == ((cel 0 (back.getD r27.toInt.toNat .top).cells).toInt)) && ((((cel 1 r35.cells).toInt) == ((cel 1 (back.getD r27.toInt.toNat .top).cells).toInt)) && ((((cel 2 r35.cells).toStr).toList == ((cel 2 (back.getD r27.toInt.toNat .top).cells).toStr).toList) && true)))))
                            else none
                          else none
                        else none) fun r36 =>
                      some (.sc (.bool r36.toBool))) fun r37 =>
                    some (.sc (.bool r37.toBool))) fun r38 =>
                  some (.sc (.bool r38.toBool))
                  else none) fun r39 =>
                some (.sc (.bool r39.toBool))
              else
                some (.sc (.bool false))) fun r40 =>
            Option.bind (α := PV) (
              if r40.toBool = true then
                Option.bind (α := PV) (
                  (D 43 [frozen 3 back]).bind fun r41 => if hasSh (.agg [(.int .i64), (.int .i64), .str]) r41 = true then
                  Option.bind (α := PV) (
                    Option.bind (α := PV) (
                      Option.bind (α := PV) (
                        if 0 ≤ r27.toInt then
                          if r27.toInt < (back.length : Int) then
                            if hasSh (.agg [(.int .i64), (.int .i64), .str]) (back.getD r27.toInt.toNat .top) = true then
                              some (.sc (.bool ((((cel 0 r41.cells).toInt) == ((cel 0 (back.getD r27.toInt.toNat .top).cells).toInt)) && ((((cel 1 r41.cells).toInt) == ((cel 1 (back.getD r27.toInt.toNat .top).cells).toInt)) && ((((cel 2 r41.cells).toStr).toList == ((cel 2 (back.getD r27.toInt.toNat .top).cells).toStr).toList) && true)))))
                            else none
                          else none
                        else none) fun r42 =>
                      some (.sc (.bool r42.toBool))) fun r43 =>
                    some (.sc (.bool r43.toBool))) fun r44 =>
                  some (.sc (.bool r44.toBool))
                  else none) fun r45 =>
                some (.sc (.bool r45.toBool))
              else
                some (.sc (.bool false))) fun r46 =>
            Option.bind (α := PV) (
              if r46.toBool = true then
                (D 33 []).bind fun r47 => if hasSh .bool r47 = true then
                some (.sc (.bool r47.toBool))
                else none
              else
                some (.sc (.bool false))) fun r48 =>
            some (.sc (.bool r48.toBool))
          else none
        else none
      else none
      else none
      else none
    else
      (D 42 [.lst 3 ln lf]).bind fun r49 => if hasSh (.agg [(.int .i64), (.int .i64), .str]) r49 = true then
      (D 42 [frozen 3 back]).bind fun r50 => if hasSh (.agg [(.int .i64), (.int .i64), .str]) r50 = true then
      Option.bind (α := PV) (
        if (((cel 0 r49.cells).toInt) == 1) = true then
          some (.sc (.bool (((cel 0 r50.cells).toInt) == 1)))
        else
          some (.sc (.bool false))) fun r51 =>
      Option.bind (α := PV) (
        if r51.toBool = true then
          some (.sc (.bool (!((((cel 0 r49.cells).toInt) == ((cel 0 r50.cells).toInt)) && ((((cel 1 r49.cells).toInt) == ((cel 1 r50.cells).toInt)) && ((((cel 2 r49.cells).toStr).toList == ((cel 2 r50.cells).toStr).toList) && true))))))
        else
          some (.sc (.bool false))) fun r52 =>
      if r52.toBool = true then
        some (.sc (.bool false))
      else
        (D 34 [frozen 3 back]).bind fun r53 => if hasSh (.agg [(.int .i64), (.int .i64), .str]) r53 = true then
        (D 34 [.lst 3 ln lf]).bind fun r54 => if hasSh (.agg [(.int .i64), (.int .i64), .str]) r54 = true then
        Option.bind (α := PV) (
          if ((((cel 0 r53.cells).toInt) == ((cel 0 r54.cells).toInt)) && ((((cel 1 r53.cells).toInt) == ((cel 1 r54.cells).toInt)) && ((((cel 2 r53.cells).toStr).toList == ((cel 2 r54.cells).toStr).toList) && true))) = true then
            Option.bind (α := PV) (
              (D 36 [frozen 3 back]).bind fun r55 => if hasSh (.agg [(.int .i64), (.int .i64), .str]) r55 = true then
              Option.bind (α := PV) (
                Option.bind (α := PV) (
                  (D 36 [.lst 3 ln lf]).bind fun r56 => if hasSh (.agg [(.int .i64), (.int .i64), .str]) r56 = true then
                  some (.sc (.bool ((((cel 0 r55.cells).toInt) == ((cel 0 r56.cells).toInt)) && ((((cel 1 r55.cells).toInt) == ((cel 1 r56.cells).toInt)) && ((((cel 2 r55.cells).toStr).toList == ((cel 2 r56.cells).toStr).toList) && true)))))
                  else none) fun r57 =>
                some (.sc (.bool r57.toBool))) fun r58 =>
              some (.sc (.bool r58.toBool))
              else none) fun r59 =>
            some (.sc (.bool r59.toBool))
          else
            some (.sc (.bool false))) fun r60 =>
        Option.bind (α := PV) (
          if r60.toBool = true then
            Option.bind (α := PV) (
              (D 39 [frozen 3 back, .sc (.int .i64 0)]).bind fun r61 => if hasSh (.int .i64) r61 = true then
              Option.bind (α := PV) (
                Option.bind (α := PV) (
                  (D 39 [.lst 3 ln lf, .sc (.int .i64 0)]).bind fun r62 => if hasSh (.int .i64) r62 = true then
                  some (.sc (.bool (r61.toInt == r62.toInt)))
                  else none) fun r63 =>
                some (.sc (.bool r63.toBool))) fun r64 =>
              some (.sc (.bool r64.toBool))
              else none) fun r65 =>
            some (.sc (.bool r65.toBool))
          else
            some (.sc (.bool false))) fun r66 =>
        Option.bind (α := PV) (
          if r66.toBool = true then
            (D 33 []).bind fun r67 => if hasSh .bool r67 = true then
            some (.sc (.bool r67.toBool))
            else none
          else
            some (.sc (.bool false))) fun r68 =>
        some (.sc (.bool r68.toBool))
        else none
        else none
      else none
      else none
    else none :=
  (loopAt_eq _ _ _ _).trans (by kernel_rfl)
-- oculus/fold.Least
theorem f34_eq (k : Nat) (ln : Nat) (lf : Nat → PV) : D 34 [.lst 3 ln lf] =
  (D 87 [.lst 3 ln lf, .sc (.func (.func 88) #[] #[])]).bind fun r1 => if hasSh (.agg [(.int .i64), (.int .i64), .str]) r1 = true then
  some (.agg [.sc (.int .i64 ((cel 0 r1.cells).toInt)), .sc (.int .i64 ((cel 1 r1.cells).toInt)), .sc (.string ((cel 2 r1.cells).toStr))])
  else none :=
  (denI_eq k _ _).trans (by kernel_rfl)
-- oculus/fold.best
noncomputable def f87s88.l0a (k : Nat) (out : Int) (t19n : Nat) (t19f : Nat → PV) (t20 t21 c0 c0_1 : Int) (c0_2 : ByteArray) : Option PV := loopAt Tryd.prog cf ext hint k 87 [1, 1, 1, 1, 0, 1, 0] ⟨[.top, .sc (.func (.func 88) #[] #[]), .top, .top, .ptr 0 0, .top, .top, .sc (.int .i64 out), .top, .top, .top, .top, .top, .top, .top, .top, .top, .top, .top, .lst 1 t19n t19f, .sc (.int .i64 t20), .sc (.int .i64 t21), .top, .top, .top, .top, .top, .top, .top, .top, .top, .top, .top, .top, .top, .top, .top, .top], [.cells 51 [.sc (.int .i64 c0), .sc (.int .i64 c0_1), .sc (.string c0_2)]], none⟩
theorem f87s88_eq (k : Nat) (ln : Nat) (lf : Nat → PV) : D 87 [.lst 3 ln lf, .sc (.func (.func 88) #[] #[])] =
  (D 137 [.lst 3 ln lf]).bind fun r1 => if hasSh (.tup [(.lst 1), (.agg [(.int .i64), (.int .i64), .str])]) r1 = true then
  if (((cel 0 (cel 1 r1.parts).cells).toInt) == 4) = true then
    some (.agg [.sc (.int .i64 ((cel 0 (cel 1 r1.parts).cells).toInt)), .sc (.int .i64 ((cel 1 (cel 1 r1.parts).cells).toInt)), .sc (.string ((cel 2 (cel 1 r1.parts).cells).toStr))])
  else
    f87s88.l0a k 0 ((cel 0 r1.parts).len) ((cel 0 r1.parts).at) ((cel 0 r1.parts).len : Int) 0 0 0 (⟨#[]⟩ : ByteArray)
  else none :=
  (denI_eq k _ _).trans (by kernel_rfl)
theorem f87s88.l0a_eq (k : Nat) (out : Int) (t19n : Nat) (t19f : Nat → PV) (t20 t21 c0 c0_1 : Int) (c0_2 : ByteArray) : f87s88.l0a k out t19n t19f t20 t21 c0 c0_1 c0_2 =
  if decide (t21 < t20) = true then
    if 0 ≤ t21 then
      if t21 < (t19n : Int) then
        if hasSh (.int .i64) (t19f t21.toNat) = true then
          Option.bind (α := PV) (
            if (t21 == 0) = true then
              some (.sc (.bool true))
            else
              Option.bind (α := PV) (
                Option.bind (α := PV) (
                  Option.bind (α := PV) (
                    (D 88 [.sc (.int .i64 ((t19f t21.toNat).toInt)), .sc (.int .i64 out)]).bind fun r2 => if hasSh .bool r2 = true then
                    some (.sc (.bool r2.toBool))
                    else none) fun r3 =>
                  some (.sc (.bool r3.toBool))) fun r4 =>
                some (.sc (.bool r4.toBool))) fun r5 =>
              some (.sc (.bool r5.toBool))) fun r6 =>
          if r6.toBool = true then
            f87s88.l0a k ((t19f t21.toNat).toInt) t19n t19f t20 (IntKind.i64.wrap (t21 + 1)) c0 c0_1 c0_2
          else
            f87s88.l0a k out t19n t19f t20 (IntKind.i64.wrap (t21 + 1)) c0 c0_1 c0_2
        else none
      else none
    else none
  else
    (D 75 [.sc (.int .i64 out)]).bind fun r7 => if hasSh (.agg [(.int .i64), (.int .i64), .str]) r7 = true then
    some (.agg [.sc (.int .i64 ((cel 0 r7.cells).toInt)), .sc (.int .i64 ((cel 1 r7.cells).toInt)), .sc (.string ((cel 2 r7.cells).toStr))])
    else none :=
  (loopAt_eq _ _ _ _).trans (by kernel_rfl)
noncomputable def f87s91.l0a (k : Nat) (out : Int) (t19n : Nat) (t19f : Nat → PV) (t20 t21 c0 c0_1 : Int) (c0_2 : ByteArray) : Option PV := loopAt Tryd.prog cf ext hint k 87 [1, 1, 1, 1, 0, 1, 0] ⟨[.top, .sc (.func (.func 91) #[] #[]), .top, .top, .ptr 0 0, .top, .top, .sc (.int .i64 out), .top, .top, .top, .top, .top, .top, .top, .top, .top, .top, .top, .lst 1 t19n t19f, .sc (.int .i64 t20), .sc (.int .i64 t21), .top, .top, .top, .top, .top, .top, .top, .top, .top, .top, .top, .top, .top, .top, .top, .top], [.cells 51 [.sc (.int .i64 c0), .sc (.int .i64 c0_1), .sc (.string c0_2)]], none⟩
theorem f87s91_eq (k : Nat) (ln : Nat) (lf : Nat → PV) : D 87 [.lst 3 ln lf, .sc (.func (.func 91) #[] #[])] =
  (D 137 [.lst 3 ln lf]).bind fun r1 => if hasSh (.tup [(.lst 1), (.agg [(.int .i64), (.int .i64), .str])]) r1 = true then
  if (((cel 0 (cel 1 r1.parts).cells).toInt) == 4) = true then
    some (.agg [.sc (.int .i64 ((cel 0 (cel 1 r1.parts).cells).toInt)), .sc (.int .i64 ((cel 1 (cel 1 r1.parts).cells).toInt)), .sc (.string ((cel 2 (cel 1 r1.parts).cells).toStr))])
  else
    f87s91.l0a k 0 ((cel 0 r1.parts).len) ((cel 0 r1.parts).at) ((cel 0 r1.parts).len : Int) 0 0 0 (⟨#[]⟩ : ByteArray)
  else none :=
  (denI_eq k _ _).trans (by kernel_rfl)
theorem f87s91.l0a_eq (k : Nat) (out : Int) (t19n : Nat) (t19f : Nat → PV) (t20 t21 c0 c0_1 : Int) (c0_2 : ByteArray) : f87s91.l0a k out t19n t19f t20 t21 c0 c0_1 c0_2 =
  if decide (t21 < t20) = true then
    if 0 ≤ t21 then
      if t21 < (t19n : Int) then
        if hasSh (.int .i64) (t19f t21.toNat) = true then
          Option.bind (α := PV) (
            if (t21 == 0) = true then
              some (.sc (.bool true))
            else
              Option.bind (α := PV) (
                Option.bind (α := PV) (
                  Option.bind (α := PV) (
                    (D 91 [.sc (.int .i64 ((t19f t21.toNat).toInt)), .sc (.int .i64 out)]).bind fun r2 => if hasSh .bool r2 = true then
                    some (.sc (.bool r2.toBool))
                    else none) fun r3 =>
                  some (.sc (.bool r3.toBool))) fun r4 =>
                some (.sc (.bool r4.toBool))) fun r5 =>
              some (.sc (.bool r5.toBool))) fun r6 =>
          if r6.toBool = true then
            f87s91.l0a k ((t19f t21.toNat).toInt) t19n t19f t20 (IntKind.i64.wrap (t21 + 1)) c0 c0_1 c0_2
          else
            f87s91.l0a k out t19n t19f t20 (IntKind.i64.wrap (t21 + 1)) c0 c0_1 c0_2
        else none
      else none
    else none
  else
    (D 75 [.sc (.int .i64 out)]).bind fun r7 => if hasSh (.agg [(.int .i64), (.int .i64), .str]) r7 = true then
    some (.agg [.sc (.int .i64 ((cel 0 r7.cells).toInt)), .sc (.int .i64 ((cel 1 r7.cells).toInt)), .sc (.string ((cel 2 r7.cells).toStr))])
    else none :=
  (loopAt_eq _ _ _ _).trans (by kernel_rfl)
-- oculus/fold.Least$1
theorem f88_eq (k : Nat) (a b : Int) : D 88 [.sc (.int .i64 a), .sc (.int .i64 b)] =
  some (.sc (.bool (decide (a < b)))) :=
  (denI_eq k _ _).trans (by kernel_rfl)
-- oculus/fold.Most
theorem f36_eq (k : Nat) (ln : Nat) (lf : Nat → PV) : D 36 [.lst 3 ln lf] =
  (D 87 [.lst 3 ln lf, .sc (.func (.func 91) #[] #[])]).bind fun r1 => if hasSh (.agg [(.int .i64), (.int .i64), .str]) r1 = true then
  some (.agg [.sc (.int .i64 ((cel 0 r1.cells).toInt)), .sc (.int .i64 ((cel 1 r1.cells).toInt)), .sc (.string ((cel 2 r1.cells).toStr))])
  else none :=
  (denI_eq k _ _).trans (by kernel_rfl)
-- oculus/fold.Most$1
theorem f91_eq (k : Nat) (a b : Int) : D 91 [.sc (.int .i64 a), .sc (.int .i64 b)] =
  some (.sc (.bool (decide (a > b)))) :=
  (denI_eq k _ _).trans (by kernel_rfl)
-- oculus/oculuslaw15.FoldBest
theorem f8_eq (k : Nat) (ln : Nat) (lf : Nat → PV) (kind : Int) : D 8 [.lst 3 ln lf, .sc (.int .i64 kind)] =
  (D 32 [.lst 3 ln lf, .sc (.int .i64 200)]).bind fun r1 => if hasSh .bool r1 = true then
  if (!r1.toBool) = true then
    (D 33 []).bind fun r2 => if hasSh .bool r2 = true then
    some (.sc (.bool r2.toBool))
    else none
  else
    (D 34 [.lst 3 ln lf]).bind fun r3 => if hasSh (.agg [(.int .i64), (.int .i64), .str]) r3 = true then
    (D 35 [.lst 3 ln lf, .sc (.bool false)]).bind fun r4 => if hasSh (.agg [(.int .i64), (.int .i64), .str]) r4 = true then
    Option.bind (α := PV) (
      if ((((cel 0 r3.cells).toInt) == ((cel 0 r4.cells).toInt)) && ((((cel 1 r3.cells).toInt) == ((cel 1 r4.cells).toInt)) && ((((cel 2 r3.cells).toStr).toList == ((cel 2 r4.cells).toStr).toList) && true))) = true then
        Option.bind (α := PV) (
          (D 36 [.lst 3 ln lf]).bind fun r5 => if hasSh (.agg [(.int .i64), (.int .i64), .str]) r5 = true then
          Option.bind (α := PV) (
            Option.bind (α := PV) (
              (D 35 [.lst 3 ln lf, .sc (.bool true)]).bind fun r6 => if hasSh (.agg [(.int .i64), (.int .i64), .str]) r6 = true then
              some (.sc (.bool ((((cel 0 r5.cells).toInt) == ((cel 0 r6.cells).toInt)) && ((((cel 1 r5.cells).toInt) == ((cel 1 r6.cells).toInt)) && ((((cel 2 r5.cells).toStr).toList == ((cel 2 r6.cells).toStr).toList) && true)))))
              else none) fun r7 =>
            some (.sc (.bool r7.toBool))) fun r8 =>
          some (.sc (.bool r8.toBool))
          else none) fun r9 =>
        some (.sc (.bool r9.toBool))
      else
        some (.sc (.bool false))) fun r10 =>
    Option.bind (α := PV) (
      if r10.toBool = true then
        Option.bind (α := PV) (
          (D 37 [.lst 3 ln lf]).bind fun r11 => if hasSh (.agg [(.int .i64), (.int .i64), .str]) r11 = true then
          Option.bind (α := PV) (
            Option.bind (α := PV) (
              (D 38 [.lst 3 ln lf]).bind fun r12 => if hasSh (.agg [(.int .i64), (.int .i64), .str]) r12 = true then
              some (.sc (.bool ((((cel 0 r11.cells).toInt) == ((cel 0 r12.cells).toInt)) && ((((cel 1 r11.cells).toInt) == ((cel 1 r12.cells).toInt)) && ((((cel 2 r11.cells).toStr).toList == ((cel 2 r12.cells).toStr).toList) && true)))))
              else none) fun r13 =>
            some (.sc (.bool r13.toBool))) fun r14 =>
          some (.sc (.bool r14.toBool))
          else none) fun r15 =>
        some (.sc (.bool r15.toBool))
      else
        some (.sc (.bool false))) fun r16 =>
    Option.bind (α := PV) (
      if r16.toBool = true then
        Option.bind (α := PV) (
          Option.bind (α := PV) (
            (D 39 [.lst 3 ln lf, .sc (.int .i64 kind)]).bind fun r17 => if hasSh (.int .i64) r17 = true then
            Option.bind (α := PV) (
              Option.bind (α := PV) (
                Option.bind (α := PV) (
                  (D 40 [.lst 3 ln lf, .sc (.int .i64 kind)]).bind fun r18 => if hasSh (.int .i64) r18 = true then
                  some (.sc (.bool (r17.toInt == r18.toInt)))
                  else none) fun r19 =>
                some (.sc (.bool r19.toBool))) fun r20 =>
              some (.sc (.bool r20.toBool))) fun r21 =>
            some (.sc (.bool r21.toBool))
            else none) fun r22 =>
          some (.sc (.bool r22.toBool))) fun r23 =>
        some (.sc (.bool r23.toBool))
      else
        some (.sc (.bool false))) fun r24 =>
    Option.bind (α := PV) (
      if r24.toBool = true then
        (D 33 []).bind fun r25 => if hasSh .bool r25 = true then
        some (.sc (.bool r25.toBool))
        else none
      else
        some (.sc (.bool false))) fun r26 =>
    some (.sc (.bool r26.toBool))
    else none
    else none
  else none :=
  (denI_eq k _ _).trans (by kernel_rfl)
-- oculus/oculusref15.Best
noncomputable def f35.l0a (k : Nat) (most : Bool) (nn : Nat) (nf : Nat → PV) (out i c0 c0_1 : Int) (c0_2 : ByteArray) : Option PV := loopAt Tryd.prog cf ext hint k 35 [1, 1, 1, 1, 0, 1, 0] ⟨[.top, .sc (.bool most), .top, .top, .ptr 0 0, .top, .lst 1 nn nf, .sc (.int .i64 out), .sc (.int .i64 i), .top, .top, .top, .top, .top, .top, .top, .top, .top, .top, .top, .top, .top, .top, .top, .top, .top, .top, .top, .top, .top, .top, .top, .top, .top, .top, .top, .top, .top, .top, .top, .top, .top, .top, .top, .top, .top, .top, .top, .top, .top, .top, .top, .top, .top, .top, .top], [.cells 51 [.sc (.int .i64 c0), .sc (.int .i64 c0_1), .sc (.string c0_2)]], none⟩
theorem f35_eq (k : Nat) (ln : Nat) (lf : Nat → PV) (most : Bool) : D 35 [.lst 3 ln lf, .sc (.bool most)] =
  (D 41 [.lst 3 ln lf]).bind fun r1 => if hasSh (.int .i64) r1 = true then
  if decide (r1.toInt ≥ 0) = true then
    if 0 ≤ r1.toInt then
      if r1.toInt < (ln : Int) then
        if hasSh (.agg [(.int .i64), (.int .i64), .str]) (lf r1.toInt.toNat) = true then
          some (.agg [.sc (.int .i64 ((cel 0 (lf r1.toInt.toNat).cells).toInt)), .sc (.int .i64 ((cel 1 (lf r1.toInt.toNat).cells).toInt)), .sc (.string ((cel 2 (lf r1.toInt.toNat).cells).toStr))])
        else none
      else none
    else none
  else
    (D 89 [.lst 3 ln lf]).bind fun r2 => if hasSh (.lst 1) r2 = true then
    f35.l0a k most r2.len r2.at 0 0 0 0 (⟨#[]⟩ : ByteArray)
    else none
  else none :=
  (denI_eq k _ _).trans (by kernel_rfl)
theorem f35.l0a_eq (k : Nat) (most : Bool) (nn : Nat) (nf : Nat → PV) (out i c0 c0_1 : Int) (c0_2 : ByteArray) : f35.l0a k most nn nf out i c0 c0_1 c0_2 =
  if decide (i < (nn : Int)) = true then
    Option.bind (α := PV) (
      if (i == 0) = true then
        some (.sc (.bool true))
      else
        Option.bind (α := PV) (
          Option.bind (α := PV) (
            if most = true then
              Option.bind (α := PV) (
                Option.bind (α := PV) (
                  if 0 ≤ i then
                    if i < (nn : Int) then
                      if hasSh (.int .i64) (nf i.toNat) = true then
                        some (.sc (.bool (decide (((nf i.toNat).toInt) > out))))
                      else none
                    else none
                  else none) fun r3 =>
                some (.sc (.bool r3.toBool))) fun r4 =>
              some (.sc (.bool r4.toBool))
            else
              some (.sc (.bool false))) fun r5 =>
          some (.sc (.bool r5.toBool))) fun r6 =>
        some (.sc (.bool r6.toBool))) fun r7 =>
    Option.bind (α := PV) (
      if r7.toBool = true then
        some (.sc (.bool true))
      else
        Option.bind (α := PV) (
          Option.bind (α := PV) (
            Option.bind (α := PV) (
              if (!most) = true then
                Option.bind (α := PV) (
                  Option.bind (α := PV) (
                    if 0 ≤ i then
                      if i < (nn : Int) then
                        if hasSh (.int .i64) (nf i.toNat) = true then
                          some (.sc (.bool (decide (((nf i.toNat).toInt) < out))))
                        else none
                      else none
                    else none) fun r8 =>
                  some (.sc (.bool r8.toBool))) fun r9 =>
                some (.sc (.bool r9.toBool))
              else
                some (.sc (.bool false))) fun r10 =>
            some (.sc (.bool r10.toBool))) fun r11 =>
          some (.sc (.bool r11.toBool))) fun r12 =>
        some (.sc (.bool r12.toBool))) fun r13 =>
    if r13.toBool = true then
      if 0 ≤ i then
        if i < (nn : Int) then
          if hasSh (.int .i64) (nf i.toNat) = true then
            f35.l0a k most nn nf ((nf i.toNat).toInt) (IntKind.i64.wrap (i + 1)) c0 c0_1 c0_2
          else none
        else none
      else none
    else
      f35.l0a k most nn nf out (IntKind.i64.wrap (i + 1)) c0 c0_1 c0_2
  else
    (D 90 [.sc (.int .i64 out)]).bind fun r14 => if hasSh (.agg [(.int .i64), (.int .i64), .str]) r14 = true then
    some (.agg [.sc (.int .i64 ((cel 0 r14.cells).toInt)), .sc (.int .i64 ((cel 1 r14.cells).toInt)), .sc (.string ((cel 2 r14.cells).toStr))])
    else none :=
  (loopAt_eq _ _ _ _).trans (by kernel_rfl)
-- oculus/oculusref15.Numbers
noncomputable def f89.l0a (k : Nat) (ln : Nat) (lf : Nat → PV) (i : Int) : Option PV := loopAt Tryd.prog cf ext hint k 89 [1, 1, 1, 0, 1, 0] ⟨[.lst 3 ln lf, .top, .top, .nils, .sc (.int .i64 i), .top, .top, .top, .top, .top, .top, .top, .top, .top, .top, .top, .top, .top, .top, .top, .top, .top, .top, .top, .top, .top, .top, .top, .top, .top], [], none⟩
noncomputable def f89.l0b (k : Nat) (ln : Nat) (lf : Nat → PV) (i : Int) (out : List PV) : Option PV := loopAt Tryd.prog cf ext hint k 89 [1, 1, 1, 0, 1, 0] ⟨[.lst 3 ln lf, .top, .top, .buf 0 0, .sc (.int .i64 i), .top, .top, .top, .top, .top, .top, .top, .top, .top, .top, .top, .top, .top, .top, .top, .top, .top, .top, .top, .top, .top, .top, .top, .top, .top], [.buf 2 0 out], none⟩
theorem f89_eq (k : Nat) (ln : Nat) (lf : Nat → PV) : D 89 [.lst 3 ln lf] =
  (D 41 [.lst 3 ln lf]).bind fun r1 => if hasSh (.int .i64) r1 = true then
  if decide (r1.toInt ≥ 0) = true then
    some (.lst 1 0 (fun _ => .top))
  else
    f89.l0a k ln lf 0
  else none :=
  (denI_eq k _ _).trans (by kernel_rfl)
theorem f89.l0a_eq (k : Nat) (ln : Nat) (lf : Nat → PV) (i : Int) : f89.l0a k ln lf i =
  if decide (i < (ln : Int)) = true then
    if 0 ≤ i then
      if i < (ln : Int) then
        if hasSh (.agg [(.int .i64), (.int .i64), .str]) (lf i.toNat) = true then
          if (((cel 0 (lf i.toNat).cells).toInt) == 1) = true then
            if 0 ≤ i then
              if i < (ln : Int) then
                if hasSh (.agg [(.int .i64), (.int .i64), .str]) (lf i.toNat) = true then
                  if ([.sc (.int .i64 ((cel 1 (lf i.toNat).cells).toInt))] : List PV).length * 8 ≤ 140737488355328 ∧ ([.sc (.int .i64 ((cel 1 (lf i.toNat).cells).toInt))] : List PV).length ≤ 140737488355328 then
                    f89.l0b k ln lf (IntKind.i64.wrap (i + 1)) ([.sc (.int .i64 ((cel 1 (lf i.toNat).cells).toInt))] : List PV)
                  else none
                else none
              else none
            else none
          else
            f89.l0a k ln lf (IntKind.i64.wrap (i + 1))
        else none
      else none
    else none
  else
    some (.lst 1 0 (fun _ => .top)) :=
  (loopAt_eq _ _ _ _).trans (by kernel_rfl)
theorem f89.l0b_eq (k : Nat) (ln : Nat) (lf : Nat → PV) (i : Int) (out : List PV) : f89.l0b k ln lf i out =
  if decide (i < (ln : Int)) = true then
    if 0 ≤ i then
      if i < (ln : Int) then
        if hasSh (.agg [(.int .i64), (.int .i64), .str]) (lf i.toNat) = true then
          if (((cel 0 (lf i.toNat).cells).toInt) == 1) = true then
            if 0 ≤ i then
              if i < (ln : Int) then
                if hasSh (.agg [(.int .i64), (.int .i64), .str]) (lf i.toNat) = true then
                  if (out.length + ([.sc (.int .i64 ((cel 1 (lf i.toNat).cells).toInt))] : List PV).length) * 8 ≤ 140737488355328 ∧ out.length + ([.sc (.int .i64 ((cel 1 (lf i.toNat).cells).toInt))] : List PV).length ≤ 140737488355328 then
                    f89.l0b k ln lf (IntKind.i64.wrap (i + 1)) (out ++ ([.sc (.int .i64 ((cel 1 (lf i.toNat).cells).toInt))] : List PV))
                  else none
                else none
              else none
            else none
          else
            f89.l0b k ln lf (IntKind.i64.wrap (i + 1)) out
        else none
      else none
    else none
  else
    some (frozen 1 out) :=
  (loopAt_eq _ _ _ _).trans (by kernel_rfl)
-- oculus/oculusref12.Num
theorem f90_eq (k : Nat) (x_ : Int) : D 90 [.sc (.int .i64 x_)] =
  (D 19 [.sc (.int .i64 x_)]).bind fun r1 => if hasSh .bool r1 = true then
  if (!r1.toBool) = true then
    (D 96 [.sc (.int .i64 4)]).bind fun r2 => if hasSh (.agg [(.int .i64), (.int .i64), .str]) r2 = true then
    some (.agg [.sc (.int .i64 ((cel 0 r2.cells).toInt)), .sc (.int .i64 ((cel 1 r2.cells).toInt)), .sc (.string ((cel 2 r2.cells).toStr))])
    else none
  else
    some (.agg [.sc (.int .i64 1), .sc (.int .i64 x_), .sc (.string (⟨#[]⟩ : ByteArray))])
  else none :=
  (denI_eq k _ _).trans (by kernel_rfl)
-- oculus/oculusref15.Mean
theorem f38_eq (k : Nat) (ln : Nat) (lf : Nat → PV) : D 38 [.lst 3 ln lf] =
  (D 89 [.lst 3 ln lf]).bind fun r1 => if hasSh (.lst 1) r1 = true then
  (D 95 [.lst 3 ln lf, .sc (.int .i64 0)]).bind fun r2 => if hasSh (.agg [(.int .i64), (.int .i64), .str]) r2 = true then
  (D 41 [.lst 3 ln lf]).bind fun r3 => if hasSh (.int .i64) r3 = true then
  Option.bind (α := PV) (
    if decide (r3.toInt < 0) = true then
      some (.sc (.bool ((r1.len : Int) == 0)))
    else
      some (.sc (.bool false))) fun r4 =>
  if r4.toBool = true then
    (D 96 [.sc (.int .i64 1)]).bind fun r5 => if hasSh (.agg [(.int .i64), (.int .i64), .str]) r5 = true then
    some (.agg [.sc (.int .i64 ((cel 0 r5.cells).toInt)), .sc (.int .i64 ((cel 1 r5.cells).toInt)), .sc (.string ((cel 2 r5.cells).toStr))])
    else none
  else
    if (((cel 0 r2.cells).toInt) == 4) = true then
      some (.agg [.sc (.int .i64 ((cel 0 r2.cells).toInt)), .sc (.int .i64 ((cel 1 r2.cells).toInt)), .sc (.string ((cel 2 r2.cells).toStr))])
    else
      (D 98 [.sc (.int .i64 ((cel 1 r2.cells).toInt)), .sc (.int .i64 1), .sc (.int .i64 (r1.len : Int))]).bind fun r6 => if hasSh (.agg [(.int .i64), .bool]) r6 = true then
      (D 97 [.agg [.sc (.int .i64 ((cel 0 r6.cells).toInt)), .sc (.bool ((cel 1 r6.cells).toBool))]]).bind fun r7 => if hasSh (.agg [(.int .i64), (.int .i64), .str]) r7 = true then
      some (.agg [.sc (.int .i64 ((cel 0 r7.cells).toInt)), .sc (.int .i64 ((cel 1 r7.cells).toInt)), .sc (.string ((cel 2 r7.cells).toStr))])
      else none
      else none
  else none
  else none
  else none :=
  (denI_eq k _ _).trans (by kernel_rfl)
end EF
end Go.Den
