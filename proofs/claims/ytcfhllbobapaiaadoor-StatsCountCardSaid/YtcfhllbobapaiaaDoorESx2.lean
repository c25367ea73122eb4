import Derived.Test.YtcfhllbobapaiaaDoorESh
import Derived.KernelRfl
set_option maxRecDepth 100000
set_option linter.unusedVariables false
namespace Go.Den
open Go Go.Proofs
namespace ES
-- oculus/oculuslaw43.StatsAdd
noncomputable def f7.l0a (k : Nat) (an : Nat) (af : Nat → PV) (bn : Nat) (bf : Nat → PV) (whole : Bool) (t26 t27 : Int) (both : List PV) : Option PV := loopAt Tryd.prog 6 ext hint k 7 [1, 1, 1, 1, 1, 1, 0, 1, 0] ⟨[.lst 7 an af, .lst 7 bn bf, .top, .top, .top, .buf 0 0, .nils, .sc (.bool whole), .top, .top, .top, .top, .top, .top, .top, .top, .top, .top, .top, .top, .top, .top, .top, .top, .top, .top, .sc (.int .i64 t26), .sc (.int .i64 t27), .top, .top, .top, .top, .top, .top, .top, .top, .top, .top, .top, .top, .top, .top, .top, .top, .top, .top, .top, .top, .top, .top, .top, .top, .top, .top, .top, .top, .top, .top, .top, .top, .top, .top, .top, .top, .top, .top, .top, .top, .top, .top, .top, .top, .top, .top, .top, .top, .top, .top, .top, .top, .top, .top, .top, .top, .top, .top, .top, .top, .top, .top, .top, .top, .top, .top, .top, .top, .top, .top, .top, .top, .top, .top, .top, .top, .top, .top, .top, .top, .top, .top, .top, .top, .top, .top, .top], [.buf 53 0 both]⟩
noncomputable def f7.l0b (k : Nat) (an : Nat) (af : Nat → PV) (bn : Nat) (bf : Nat → PV) (whole : Bool) (t26 t27 : Int) (both back : List PV) : Option PV := loopAt Tryd.prog 6 ext hint k 7 [1, 1, 1, 1, 1, 1, 0, 1, 0] ⟨[.lst 7 an af, .lst 7 bn bf, .top, .top, .top, .buf 0 0, .buf 1 0, .sc (.bool whole), .top, .top, .top, .top, .top, .top, .top, .top, .top, .top, .top, .top, .top, .top, .top, .top, .top, .top, .sc (.int .i64 t26), .sc (.int .i64 t27), .top, .top, .top, .top, .top, .top, .top, .top, .top, .top, .top, .top, .top, .top, .top, .top, .top, .top, .top, .top, .top, .top, .top, .top, .top, .top, .top, .top, .top, .top, .top, .top, .top, .top, .top, .top, .top, .top, .top, .top, .top, .top, .top, .top, .top, .top, .top, .top, .top, .top, .top, .top, .top, .top, .top, .top, .top, .top, .top, .top, .top, .top, .top, .top, .top, .top, .top, .top, .top, .top, .top, .top, .top, .top, .top, .top, .top, .top, .top, .top, .top, .top, .top, .top, .top, .top, .top], [.buf 53 0 both, .buf 53 0 back]⟩
theorem f7_eq (k : Nat) (an : Nat) (af : Nat → PV) (bn : Nat) (bf : Nat → PV) : D 7 [.lst 7 an af, .lst 7 bn bf] =
  Option.bind (α := PV) (
    if decide ((an : Int) > 150) = true then
      some (.sc (.bool true))
    else
      some (.sc (.bool (decide ((bn : Int) > 150))))) fun r1 =>
  if r1.toBool = true then
    (D 24 []).bind fun r2 => if hasSh .bool r2 = true then
    some (.sc (.bool r2.toBool))
    else none
  else
    if ((List.range an).map af).length * 72 ≤ 140737488355328 ∧ ((List.range an).map af).length ≤ 140737488355328 then
      if (((List.range an).map af).length + ((List.range bn).map bf).length) * 72 ≤ 140737488355328 ∧ ((List.range an).map af).length + ((List.range bn).map bf).length ≤ 140737488355328 then
        f7.l0a k an af bn bf true ((((List.range an).map af) ++ ((List.range bn).map bf)).length : Int) 0 (((List.range an).map af) ++ ((List.range bn).map bf))
      else none
    else none :=
  (denI_eq k _ _).trans (by kernel_rfl)
theorem f7.l0a_eq (k : Nat) (an : Nat) (af : Nat → PV) (bn : Nat) (bf : Nat → PV) (whole : Bool) (t26 t27 : Int) (both : List PV) : f7.l0a k an af bn bf whole t26 t27 both =
  if decide (t27 < t26) = true then
    if 0 ≤ IntKind.i64.wrap ((IntKind.i64.wrap ((both.length : Int) - 1)) - t27) then
      if IntKind.i64.wrap ((IntKind.i64.wrap ((both.length : Int) - 1)) - t27) < (both.length : Int) then
        if hasSh (.agg [(.int .i64), (.int .i64), .str, .bool, (.int .i64), (.int .i64), .str]) (both.getD (IntKind.i64.wrap ((IntKind.i64.wrap ((both.length : Int) - 1)) - t27)).toNat .top) = true then
          if ([.agg [.sc (.int .i64 ((cel 0 (both.getD (IntKind.i64.wrap ((IntKind.i64.wrap ((both.length : Int) - 1)) - t27)).toNat .top).cells).toInt)), .sc (.int .i64 ((cel 1 (both.getD (IntKind.i64.wrap ((IntKind.i64.wrap ((both.length : Int) - 1)) - t27)).toNat .top).cells).toInt)), .sc (.string ((cel 2 (both.getD (IntKind.i64.wrap ((IntKind.i64.wrap ((both.length : Int) - 1)) - t27)).toNat .top).cells).toStr)), .sc (.bool ((cel 3 (both.getD (IntKind.i64.wrap ((IntKind.i64.wrap ((both.length : Int) - 1)) - t27)).toNat .top).cells).toBool)), .sc (.int .i64 ((cel 4 (both.getD (IntKind.i64.wrap ((IntKind.i64.wrap ((both.length : Int) - 1)) - t27)).toNat .top).cells).toInt)), .sc (.int .i64 ((cel 5 (both.getD (IntKind.i64.wrap ((IntKind.i64.wrap ((both.length : Int) - 1)) - t27)).toNat .top).cells).toInt)), .sc (.string ((cel 6 (both.getD (IntKind.i64.wrap ((IntKind.i64.wrap ((both.length : Int) - 1)) - t27)).toNat .top).cells).toStr))]] : List PV).length * 72 ≤ 140737488355328 ∧ ([.agg [.sc (.int .i64 ((cel 0 (both.getD (IntKind.i64.wrap ((IntKind.i64.wrap ((both.length : Int) - 1)) - t27)).toNat .top).cells).toInt)), .sc (.int .i64 ((cel 1 (both.getD (IntKind.i64.wrap ((IntKind.i64.wrap ((both.length : Int) - 1)) - t27)).toNat .top).cells).toInt)), .sc (.string ((cel 2 (both.getD (IntKind.i64.wrap ((IntKind.i64.wrap ((both.length : Int) - 1)) - t27)).toNat .top).cells).toStr)), .sc (.bool ((cel 3 (both.getD (IntKind.i64.wrap ((IntKind.i64.wrap ((both.length : Int) - 1)) - t27)).toNat .top).cells).toBool)), .sc (.int .i64 ((cel 4 (both.getD (IntKind.i64.wrap ((IntKind.i64.wrap ((both.length : Int) - 1)) - t27)).toNat .top).cells).toInt)), .sc (.int .i64 ((cel 5 (both.getD (IntKind.i64.wrap ((IntKind.i64.wrap ((both.length : Int) - 1)) - t27)).toNat .top).cells).toInt)), .sc (.string ((cel 6 (both.getD (IntKind.i64.wrap ((IntKind.i64.wrap ((both.length : Int) - 1)) - t27)).toNat .top).cells).toStr))]] : List PV).length ≤ 140737488355328 then
            Option.bind (α := PV) (
              if whole = true then
                Option.bind (α := PV) (
                  Option.bind (α := PV) (
                    if 0 ≤ t27 then
                      if t27 < (both.length : Int) then
                        if hasSh (.agg [(.int .i64), (.int .i64), .str, .bool, (.int .i64), (.int .i64), .str]) (both.getD t27.toNat .top) = true then
                          some (.sc (.bool (decide (((cel 4 (both.getD t27.toNat .top).cells).toInt) ≥ 0))))
                        else none
                      else none
                    else none) fun r3 =>
                  some (.sc (.bool r3.toBool))) fun r4 =>
                some (.sc (.bool r4.toBool))
              else
                some (.sc (.bool false))) fun r5 =>
            Option.bind (α := PV) (
              if r5.toBool = true then
                Option.bind (α := PV) (
                  Option.bind (α := PV) (
                    if 0 ≤ t27 then
                      if t27 < (both.length : Int) then
                        if hasSh (.agg [(.int .i64), (.int .i64), .str, .bool, (.int .i64), (.int .i64), .str]) (both.getD t27.toNat .top) = true then
                          some (.sc (.bool (decide (((cel 4 (both.getD t27.toNat .top).cells).toInt) ≤ 4))))
                        else none
                      else none
                    else none) fun r6 =>
                  some (.sc (.bool r6.toBool))) fun r7 =>
                some (.sc (.bool r7.toBool))
              else
                some (.sc (.bool false))) fun r8 =>
            f7.l0b k an af bn bf r8.toBool t26 (IntKind.i64.wrap (t27 + 1)) both ([.agg [.sc (.int .i64 ((cel 0 (both.getD (IntKind.i64.wrap ((IntKind.i64.wrap ((both.length : Int) - 1)) - t27)).toNat .top).cells).toInt)), .sc (.int .i64 ((cel 1 (both.getD (IntKind.i64.wrap ((IntKind.i64.wrap ((both.length : Int) - 1)) - t27)).toNat .top).cells).toInt)), .sc (.string ((cel 2 (both.getD (IntKind.i64.wrap ((IntKind.i64.wrap ((both.length : Int) - 1)) - t27)).toNat .top).cells).toStr)), .sc (.bool ((cel 3 (both.getD (IntKind.i64.wrap ((IntKind.i64.wrap ((both.length : Int) - 1)) - t27)).toNat .top).cells).toBool)), .sc (.int .i64 ((cel 4 (both.getD (IntKind.i64.wrap ((IntKind.i64.wrap ((both.length : Int) - 1)) - t27)).toNat .top).cells).toInt)), .sc (.int .i64 ((cel 5 (both.getD (IntKind.i64.wrap ((IntKind.i64.wrap ((both.length : Int) - 1)) - t27)).toNat .top).cells).toInt)), .sc (.string ((cel 6 (both.getD (IntKind.i64.wrap ((IntKind.i64.wrap ((both.length : Int) - 1)) - t27)).toNat .top).cells).toStr))]] : List PV)
          else none
        else none
      else none
    else none
  else
    (D 25 [frozen 7 both]).bind fun r9 => if hasSh (.agg [(.int .i64), (.int .i64), (.int .i64), (.int .i64), (.int .i64), (.int .i64), (.int .i64), (.int .i64)]) r9 = true then
    (D 25 [.lst 7 an af]).bind fun r10 => if hasSh (.agg [(.int .i64), (.int .i64), (.int .i64), (.int .i64), (.int .i64), (.int .i64), (.int .i64), (.int .i64)]) r10 = true then
    (D 25 [.lst 7 bn bf]).bind fun r11 => if hasSh (.agg [(.int .i64), (.int .i64), (.int .i64), (.int .i64), (.int .i64), (.int .i64), (.int .i64), (.int .i64)]) r11 = true then
    (D 31 [.agg [.sc (.int .i64 ((cel 0 r10.cells).toInt)), .sc (.int .i64 ((cel 1 r10.cells).toInt)), .sc (.int .i64 ((cel 2 r10.cells).toInt)), .sc (.int .i64 ((cel 3 r10.cells).toInt)), .sc (.int .i64 ((cel 4 r10.cells).toInt)), .sc (.int .i64 ((cel 5 r10.cells).toInt)), .sc (.int .i64 ((cel 6 r10.cells).toInt)), .sc (.int .i64 ((cel 7 r10.cells).toInt))], .agg [.sc (.int .i64 ((cel 0 r11.cells).toInt)), .sc (.int .i64 ((cel 1 r11.cells).toInt)), .sc (.int .i64 ((cel 2 r11.cells).toInt)), .sc (.int .i64 ((cel 3 r11.cells).toInt)), .sc (.int .i64 ((cel 4 r11.cells).toInt)), .sc (.int .i64 ((cel 5 r11.cells).toInt)), .sc (.int .i64 ((cel 6 r11.cells).toInt)), .sc (.int .i64 ((cel 7 r11.cells).toInt))]]).bind fun r12 => if hasSh (.agg [(.int .i64), (.int .i64), (.int .i64), (.int .i64), (.int .i64), (.int .i64), (.int .i64), (.int .i64)]) r12 = true then
    Option.bind (α := PV) (
      if (!((((cel 0 r9.cells).toInt) == ((cel 0 r12.cells).toInt)) && ((((cel 1 r9.cells).toInt) == ((cel 1 r12.cells).toInt)) && ((((cel 2 r9.cells).toInt) == ((cel 2 r12.cells).toInt)) && ((((cel 3 r9.cells).toInt) == ((cel 3 r12.cells).toInt)) && ((((cel 4 r9.cells).toInt) == ((cel 4 r12.cells).toInt)) && ((((cel 5 r9.cells).toInt) == ((cel 5 r12.cells).toInt)) && ((((cel 6 r9.cells).toInt) == ((cel 6 r12.cells).toInt)) && ((((cel 7 r9.cells).toInt) == ((cel 7 r12.cells).toInt)) && true))))))))) = true then
        some (.sc (.bool true))
      else
        Option.bind (α := PV) (
          Option.bind (α := PV) (
            (D 25 [.lst 7 0 (fun _ => .top)]).bind fun r13 => if hasSh (.agg [(.int .i64), (.int .i64), (.int .i64), (.int .i64), (.int .i64), (.int .i64), (.int .i64), (.int .i64)]) r13 = true then
            some (.sc (.bool (!((((cel 0 r9.cells).toInt) == ((cel 0 r13.cells).toInt)) && ((((cel 1 r9.cells).toInt) == ((cel 1 r13.cells).toInt)) && ((((cel 2 r9.cells).toInt) == ((cel 2 r13.cells).toInt)) && ((((cel 3 r9.cells).toInt) == ((cel 3 r13.cells).toInt)) && ((((cel 4 r9.cells).toInt) == ((cel 4 r13.cells).toInt)) && ((((cel 5 r9.cells).toInt) == ((cel 5 r13.cells).toInt)) && ((((cel 6 r9.cells).toInt) == ((cel 6 r13.cells).toInt)) && ((((cel 7 r9.cells).toInt) == ((cel 7 r13.cells).toInt)) && true)))))))))))
            else none) fun r14 =>
          some (.sc (.bool r14.toBool))) fun r15 =>
        some (.sc (.bool r15.toBool))) fun r16 =>
    Option.bind (α := PV) (
      if r16.toBool = true then
        some (.sc (.bool true))
      else
        Option.bind (α := PV) (
          Option.bind (α := PV) (
            (D 25 [.lst 7 bn bf]).bind fun r17 => if hasSh (.agg [(.int .i64), (.int .i64), (.int .i64), (.int .i64), (.int .i64), (.int .i64), (.int .i64), (.int .i64)]) r17 = true then
            Option.bind (α := PV) (
              Option.bind (α := PV) (
                (D 25 [.lst 7 an af]).bind fun r18 => if hasSh (.agg [(.int .i64), (.int .i64), (.int .i64), (.int .i64), (.int .i64), (.int .i64), (.int .i64), (.int .i64)]) r18 = true then
                Option.bind (α := PV) (
                  (D 31 [.agg [.sc (.int .i64 ((cel 0 r17.cells).toInt)), .sc (.int .i64 ((cel 1 r17.cells).toInt)), .sc (.int .i64 ((cel 2 r17.cells).toInt)), .sc (.int .i64 ((cel 3 r17.cells).toInt)), .sc (.int .i64 ((cel 4 r17.cells).toInt)), .sc (.int .i64 ((cel 5 r17.cells).toInt)), .sc (.int .i64 ((cel 6 r17.cells).toInt)), .sc (.int .i64 ((cel 7 r17.cells).toInt))], .agg [.sc (.int .i64 ((cel 0 r18.cells).toInt)), .sc (.int .i64 ((cel 1 r18.cells).toInt)), .sc (.int .i64 ((cel 2 r18.cells).toInt)), .sc (.int .i64 ((cel 3 r18.cells).toInt)), .sc (.int .i64 ((cel 4 r18.cells).toInt)), .sc (.int .i64 ((cel 5 r18.cells).toInt)), .sc (.int .i64 ((cel 6 r18.cells).toInt)), .sc (.int .i64 ((cel 7 r18.cells).toInt))]]).bind fun r19 => if hasSh (.agg [(.int .i64), (.int .i64), (.int .i64), (.int .i64), (.int .i64), (.int .i64), (.int .i64), (.int .i64)]) r19 = true then
                  some (.sc (.bool (!((((cel 0 r9.cells).toInt) == ((cel 0 r19.cells).toInt)) && ((((cel 1 r9.cells).toInt) == ((cel 1 r19.cells).toInt)) && ((((cel 2 r9.cells).toInt) == ((cel 2 r19.cells).toInt)) && ((((cel 3 r9.cells).toInt) == ((cel 3 r19.cells).toInt)) && ((((cel 4 r9.cells).toInt) == ((cel 4 r19.cells).toInt)) && ((((cel 5 r9.cells).toInt) == ((cel 5 r19.cells).toInt)) && ((((cel 6 r9.cells).toInt) == ((cel 6 r19.cells).toInt)) && ((((cel 7 r9.cells).toInt) == ((cel 7 r19.cells).toInt)) && true)))))))))))
                  else none) fun r20 =>
                some (.sc (.bool r20.toBool))
                else none) fun r21 =>
              some (.sc (.bool r21.toBool))) fun r22 =>
            some (.sc (.bool r22.toBool))
            else none) fun r23 =>
          some (.sc (.bool r23.toBool))) fun r24 =>
        some (.sc (.bool r24.toBool))) fun r25 =>
    if r25.toBool = true then
      some (.sc (.bool false))
    else
      Option.bind (α := PV) (
        if (!whole) = true then
          some (.sc (.bool true))
        else
          some (.sc (.bool ((IntKind.i64.wrap ((IntKind.i64.wrap ((IntKind.i64.wrap ((IntKind.i64.wrap ((IntKind.i64.wrap ((IntKind.i64.wrap (((cel 1 r9.cells).toInt) + ((cel 2 r9.cells).toInt))) + ((cel 3 r9.cells).toInt))) + ((cel 4 r9.cells).toInt))) + ((cel 5 r9.cells).toInt))) + ((cel 6 r9.cells).toInt))) + ((cel 7 r9.cells).toInt))) == ((cel 0 r9.cells).toInt))))) fun r26 =>
      Option.bind (α := PV) (
        if r26.toBool = true then
          (D 24 []).bind fun r27 => if hasSh .bool r27 = true then
          some (.sc (.bool r27.toBool))
          else none
        else
          some (.sc (.bool false))) fun r28 =>
      some (.sc (.bool r28.toBool))
    else none
    else none
    else none
    else none :=
  (loopAt_eq _ _ _ _).trans (by kernel_rfl)
theorem f7.l0b_eq (k : Nat) (an : Nat) (af : Nat → PV) (bn : Nat) (bf : Nat → PV) (whole : Bool) (t26 t27 : Int) (both back : List PV) : f7.l0b k an af bn bf whole t26 t27 both back =
  if decide (t27 < t26) = true then
    if 0 ≤ IntKind.i64.wrap ((IntKind.i64.wrap ((both.length : Int) - 1)) - t27) then
      if IntKind.i64.wrap ((IntKind.i64.wrap ((both.length : Int) - 1)) - t27) < (both.length : Int) then
        if hasSh (.agg [(.int .i64), (.int .i64), .str, .bool, (.int .i64), (.int .i64), .str]) (both.getD (IntKind.i64.wrap ((IntKind.i64.wrap ((both.length : Int) - 1)) - t27)).toNat .top) = true then
          if (back.length + ([.agg [.sc (.int .i64 ((cel 0 (both.getD (IntKind.i64.wrap ((IntKind.i64.wrap ((both.length : Int) - 1)) - t27)).toNat .top).cells).toInt)), .sc (.int .i64 ((cel 1 (both.getD (IntKind.i64.wrap ((IntKind.i64.wrap ((both.length : Int) - 1)) - t27)).toNat .top).cells).toInt)), .sc (.string ((cel 2 (both.getD (IntKind.i64.wrap ((IntKind.i64.wrap ((both.length : Int) - 1)) - t27)).toNat .top).cells).toStr)), .sc (.bool ((cel 3 (both.getD (IntKind.i64.wrap ((IntKind.i64.wrap ((both.length : Int) - 1)) - t27)).toNat .top).cells).toBool)), .sc (.int .i64 ((cel 4 (both.getD (IntKind.i64.wrap ((IntKind.i64.wrap ((both.length : Int) - 1)) - t27)).toNat .top).cells).toInt)), .sc (.int .i64 ((cel 5 (both.getD (IntKind.i64.wrap ((IntKind.i64.wrap ((both.length : Int) - 1)) - t27)).toNat .top).cells).toInt)), .sc (.string ((cel 6 (both.getD (IntKind.i64.wrap ((IntKind.i64.wrap ((both.length : Int) - 1)) - t27)).toNat .top).cells).toStr))]] : List PV).length) * 72 ≤ 140737488355328 ∧ back.length + ([.agg [.sc (.int .i64 ((cel 0 (both.getD (IntKind.i64.wrap ((IntKind.i64.wrap ((both.length : Int) - 1)) - t27)).toNat .top).cells).toInt)), .sc (.int .i64 ((cel 1 (both.getD (IntKind.i64.wrap ((IntKind.i64.wrap ((both.length : Int) - 1)) - t27)).toNat .top).cells).toInt)), .sc (.string ((cel 2 (both.getD (IntKind.i64.wrap ((IntKind.i64.wrap ((both.length : Int) - 1)) - t27)).toNat .top).cells).toStr)), .sc (.bool ((cel 3 (both.getD (IntKind.i64.wrap ((IntKind.i64.wrap ((both.length : Int) - 1)) - t27)).toNat .top).cells).toBool)), .sc (.int .i64 ((cel 4 (both.getD (IntKind.i64.wrap ((IntKind.i64.wrap ((both.length : Int) - 1)) - t27)).toNat .top).cells).toInt)), .sc (.int .i64 ((cel 5 (both.getD (IntKind.i64.wrap ((IntKind.i64.wrap ((both.length : Int) - 1)) - t27)).toNat .top).cells).toInt)), .sc (.string ((cel 6 (both.getD (IntKind.i64.wrap ((IntKind.i64.wrap ((both.length : Int) - 1)) - t27)).toNat .top).cells).toStr))]] : List PV).length ≤ 140737488355328 then
            Option.bind (α := PV) (
              if whole = true then
                Option.bind (α := PV) (
                  Option.bind (α := PV) (
                    if 0 ≤ t27 then
                      if t27 < (both.length : Int) then
                        if hasSh (.agg [(.int .i64), (.int .i64), .str, .bool, (.int .i64), (.int .i64), .str]) (both.getD t27.toNat .top) = true then
                          some (.sc (.bool (decide (((cel 4 (both.getD t27.toNat .top).cells).toInt) ≥ 0))))
                        else none
                      else none
                    else none) fun r29 =>
                  some (.sc (.bool r29.toBool))) fun r30 =>
                some (.sc (.bool r30.toBool))
              else
                some (.sc (.bool false))) fun r31 =>
            Option.bind (α := PV) (
              if r31.toBool = true then
                Option.bind (α := PV) (
                  Option.bind (α := PV) (
                    if 0 ≤ t27 then
                      if t27 < (both.length : Int) then
                        if hasSh (.agg [(.int .i64), (.int .i64), .str, .bool, (.int .i64), (.int .i64), .str]) (both.getD t27.toNat .top) = true then
                          some (.sc (.bool (decide (((cel 4 (both.getD t27.toNat .top).cells).toInt) ≤ 4))))
                        else none
                      else none
                    else none) fun r32 =>
                  some (.sc (.bool r32.toBool))) fun r33 =>
                some (.sc (.bool r33.toBool))
              else
                some (.sc (.bool false))) fun r34 =>
            f7.l0b k an af bn bf r34.toBool t26 (IntKind.i64.wrap (t27 + 1)) both (back ++ ([.agg [.sc (.int .i64 ((cel 0 (both.getD (IntKind.i64.wrap ((IntKind.i64.wrap ((both.length : Int) - 1)) - t27)).toNat .top).cells).toInt)), .sc (.int .i64 ((cel 1 (both.getD (IntKind.i64.wrap ((IntKind.i64.wrap ((both.length : Int) - 1)) - t27)).toNat .top).cells).toInt)), .sc (.string ((cel 2 (both.getD (IntKind.i64.wrap ((IntKind.i64.wrap ((both.length : Int) - 1)) - t27)).toNat .top).cells).toStr)), .sc (.bool ((cel 3 (both.getD (IntKind.i64.wrap ((IntKind.i64.wrap ((both.length : Int) - 1)) - t27)).toNat .top).cells).toBool)), .sc (.int .i64 ((cel 4 (both.getD (IntKind.i64.wrap ((IntKind.i64.wrap ((both.length : Int) - 1)) - t27)).toNat .top).cells).toInt)), .sc (.int .i64 ((cel 5 (both.getD (IntKind.i64.wrap ((IntKind.i64.wrap ((both.length : Int) - 1)) - t27)).toNat .top).cells).toInt)), .sc (.string ((cel 6 (both.getD (IntKind.i64.wrap ((IntKind.i64.wrap ((both.length : Int) - 1)) - t27)).toNat .top).cells).toStr))]] : List PV))
          else none
        else none
      else none
    else none
  else
    (D 25 [frozen 7 both]).bind fun r35 => if hasSh (.agg [(.int .i64), (.int .i64), (.int .i64), (.int .i64), (.int .i64), (.int .i64), (.int .i64), (.int .i64)]) r35 = true then
    (D 25 [.lst 7 an af]).bind fun r36 => if hasSh (.agg [(.int .i64), (.int .i64), (.int .i64), (.int .i64), (.int .i64), (.int .i64), (.int .i64), (.int .i64)]) r36 = true then
    (D 25 [.lst 7 bn bf]).bind fun r37 => if hasSh (.agg [(.int .i64), (.int .i64), (.int .i64), (.int .i64), (.int .i64), (.int .i64), (.int .i64), (.int .i64)]) r37 = true then
    (D 31 [.agg [.sc (.int .i64 ((cel 0 r36.cells).toInt)), .sc (.int .i64 ((cel 1 r36.cells).toInt)), .sc (.int .i64 ((cel 2 r36.cells).toInt)), .sc (.int .i64 ((cel 3 r36.cells).toInt)), .sc (.int .i64 ((cel 4 r36.cells).toInt)), .sc (.int .i64 ((cel 5 r36.cells).toInt)), .sc (.int .i64 ((cel 6 r36.cells).toInt)), .sc (.int .i64 ((cel 7 r36.cells).toInt))], .agg [.sc (.int .i64 ((cel 0 r37.cells).toInt)), .sc (.int .i64 ((cel 1 r37.cells).toInt)), .sc (.int .i64 ((cel 2 r37.cells).toInt)), .sc (.int .i64 ((cel 3 r37.cells).toInt)), .sc (.int .i64 ((cel 4 r37.cells).toInt)), .sc (.int .i64 ((cel 5 r37.cells).toInt)), .sc (.int .i64 ((cel 6 r37.cells).toInt)), .sc (.int .i64 ((cel 7 r37.cells).toInt))]]).bind fun r38 => if hasSh (.agg [(.int .i64), (.int .i64), (.int .i64), (.int .i64), (.int .i64), (.int .i64), (.int .i64), (.int .i64)]) r38 = true then
    Option.bind (α := PV) (
      if (!((((cel 0 r35.cells).toInt) == ((cel 0 r38.cells).toInt)) && ((((cel 1 r35.cells).toInt) == ((cel 1 r38.cells).toInt)) && ((((cel 2 r35.cells).toInt) == ((cel 2 r38.cells).toInt)) && ((((cel 3 r35.cells).toInt) == ((cel 3 r38.cells).toInt)) && ((((cel 4 r35.cells).toInt) == ((cel 4 r38.cells).toInt)) && ((((cel 5 r35.cells).toInt) == ((cel 5 r38.cells).toInt)) && ((((cel 6 r35.cells).toInt) == ((cel 6 r38.cells).toInt)) && ((((cel 7 r35.cells).toInt) == ((cel 7 r38.cells).toInt)) && true))))))))) = true then
        some (.sc (.bool true))
      else
        Option.bind (α := PV) (
          Option.bind (α := PV) (
            (D 25 [frozen 7 back]).bind fun r39 => if hasSh (.agg [(.int .i64), (.int .i64), (.int .i64), (.int .i64), (.int .i64), (.int .i64), (.int .i64), (.int .i64)]) r39 = true then
            some (.sc (.bool (!((((cel 0 r35.cells).toInt) == ((cel 0 r39.cells).toInt)) && ((((cel 1 r35.cells).toInt) == ((cel 1 r39.cells).toInt)) && ((((cel 2 r35.cells).toInt) == ((cel 2 r39.cells).toInt)) && ((((cel 3 r35.cells).toInt) == ((cel 3 r39.cells).toInt)) && ((((cel 4 r35.cells).toInt) == ((cel 4 r39.cells).toInt)) && ((((cel 5 r35.cells).toInt) == ((cel 5 r39.cells).toInt)) && ((((cel 6 r35.cells).toInt) == ((cel 6 r39.cells).toInt)) && ((((cel 7 r35.cells).toInt) == ((cel 7 r39.cells).toInt)) && true)))))))))))
            else none) fun r40 =>
          some (.sc (.bool r40.toBool))) fun r41 =>
        some (.sc (.bool r41.toBool))) fun r42 =>
    Option.bind (α := PV) (
      if r42.toBool = true then
        some (.sc (.bool true))
      else
        Option.bind (α := PV) (
          Option.bind (α := PV) (
            (D 25 [.lst 7 bn bf]).bind fun r43 => if hasSh (.agg [(.int .i64), (.int .i64), (.int .i64), (.int .i64), (.int .i64), (.int .i64), (.int .i64), (.int .i64)]) r43 = true then
            Option.bind (α := PV) (
              Option.bind (α := PV) (
                (D 25 [.lst 7 an af]).bind fun r44 => if hasSh (.agg [(.int .i64), (.int .i64), (.int .i64), (.int .i64), (.int .i64), (.int .i64), (.int .i64), (.int .i64)]) r44 = true then
                Option.bind (α := PV) (
                  (D 31 [.agg [.sc (.int .i64 ((cel 0 r43.cells).toInt)), .sc (.int .i64 ((cel 1 r43.cells).toInt)), .sc (.int .i64 ((cel 2 r43.cells).toInt)), .sc (.int .i64 ((cel 3 r43.cells).toInt)), .sc (.int .i64 ((cel 4 r43.cells).toInt)), .sc (.int .i64 ((cel 5 r43.cells).toInt)), .sc (.int .i64 ((cel 6 r43.cells).toInt)), .sc (.int .i64 ((cel 7 r43.cells).toInt))], .agg [.sc (.int .i64 ((cel 0 r44.cells).toInt)), .sc (.int .i64 ((cel 1 r44.cells).toInt)), .sc (.int .i64 ((cel 2 r44.cells).toInt)), .sc (.int .i64 ((cel 3 r44.cells).toInt)), .sc (.int .i64 ((cel 4 r44.cells).toInt)), .sc (.int .i64 ((cel 5 r44.cells).toInt)), .sc (.int .i64 ((cel 6 r44.cells).toInt)), .sc (.int .i64 ((cel 7 r44.cells).toInt))]]).bind fun r45 => if hasSh (.agg [(.int .i64), (.int .i64), (.int .i64), (.int .i64), (.int .i64), (.int .i64), (.int .i64), (.int .i64)]) r45 = true then
                  some (.sc (.bool (!((((cel 0 r35.cells).toInt) == ((cel 0 r45.cells).toInt)) && ((((cel 1 r35.cells).toInt) == ((cel 1 r45.cells).toInt)) && ((((cel 2 r35.cells).toInt) == ((cel 2 r45.cells).toInt)) && ((((cel 3 r35.cells).toInt) == ((cel 3 r45.cells).toInt)) && ((((cel 4 r35.cells).toInt) == ((cel 4 r45.cells).toInt)) && ((((cel 5 r35.cells).toInt) == ((cel 5 r45.cells).toInt)) && ((((cel 6 r35.cells).toInt) == ((cel 6 r45.cells).toInt)) && ((((cel 7 r35.cells).toInt) == ((cel 7 r45.cells).toInt)) && true)))))))))))
                  else none) fun r46 =>
                some (.sc (.bool r46.toBool))
                else none) fun r47 =>
              some (.sc (.bool r47.toBool))) fun r48 =>
            some (.sc (.bool r48.toBool))
            else none) fun r49 =>
          some (.sc (.bool r49.toBool))) fun r50 =>
        some (.sc (.bool r50.toBool))) fun r51 =>
    if r51.toBool = true then
      some (.sc (.bool false))
    else
      Option.bind (α := PV) (
        if (!whole) = true then
          some (.sc (.bool true))
        else
          some (.sc (.bool ((IntKind.i64.wrap ((IntKind.i64.wrap ((IntKind.i64.wrap ((IntKind.i64.wrap ((IntKind.i64.wrap ((IntKind.i64.wrap (((cel 1 r35.cells).toInt) + ((cel 2 r35.cells).toInt))) + ((cel 3 r35.cells).toInt))) + ((cel 4 r35.cells).toInt))) + ((cel 5 r35.cells).toInt))) + ((cel 6 r35.cells).toInt))) + ((cel 7 r35.cells).toInt))) == ((cel 0 r35.cells).toInt))))) fun r52 =>
      Option.bind (α := PV) (
        if r52.toBool = true then
          (D 24 []).bind fun r53 => if hasSh .bool r53 = true then
          some (.sc (.bool r53.toBool))
          else none
        else
          some (.sc (.bool false))) fun r54 =>
      some (.sc (.bool r54.toBool))
    else none
    else none
    else none
    else none :=
  (loopAt_eq _ _ _ _).trans (by kernel_rfl)
end ES
end Go.Den
