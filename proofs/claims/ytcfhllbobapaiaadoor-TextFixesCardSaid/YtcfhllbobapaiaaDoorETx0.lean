import Derived.Test.YtcfhllbobapaiaaDoorETh
import Derived.KernelRfl
set_option maxRecDepth 100000
set_option linter.unusedVariables false
namespace Go.Den
open Go Go.Proofs
namespace ET
-- oculus/oculuslaw14.TextJoins
noncomputable def f14.l0a (k : Nat) (ln : Nat) (lf : Nat → PV) (k_ : Int) (t28n : Nat) (t28f : Nat → PV) (t29 t30 : Int) : Option PV := loopAt Tryd.prog cf ext hint k 14 [1, 1, 0, 1, 0] ⟨[.lst 1 ln lf, .sc (.int .i64 k_), .top, .top, .top, .top, .top, .top, .top, .top, .top, .top, .top, .top, .top, .top, .top, .top, .top, .top, .top, .top, .top, .top, .top, .top, .top, .top, .lst 1 t28n t28f, .sc (.int .i64 t29), .sc (.int .i64 t30), .top, .top, .top, .top, .top, .top, .top, .top, .top, .top, .top, .top, .top, .top, .top, .top, .top, .top, .top, .top, .top, .top, .top, .top, .top, .top, .top, .top, .top, .top, .top, .top, .top, .top, .top, .top, .top, .top, .top, .top, .top, .top, .top, .top, .top, .top, .top, .top, .top, .top, .top, .top, .top, .top, .top, .top, .top], [], none⟩
theorem f14_eq (k : Nat) (ln : Nat) (lf : Nat → PV) (k_ : Int) : D 14 [.lst 1 ln lf, .sc (.int .i64 k_)] =
  Option.bind (α := PV) (
    if decide ((ln : Int) > 60) = true then
      some (.sc (.bool true))
    else
      some (.sc (.bool (decide (k_ < 0))))) fun r1 =>
  Option.bind (α := PV) (
    if r1.toBool = true then
      some (.sc (.bool true))
    else
      some (.sc (.bool (decide (k_ > (ln : Int)))))) fun r2 =>
  if r2.toBool = true then
    (D 47 []).bind fun r3 => if hasSh .bool r3 = true then
    some (.sc (.bool r3.toBool))
    else none
  else
    f14.l0a k ln lf k_ ln lf (ln : Int) 0 :=
  (denI_eq k _ _).trans (by kernel_rfl)
theorem f14.l0a_eq (k : Nat) (ln : Nat) (lf : Nat → PV) (k_ : Int) (t28n : Nat) (t28f : Nat → PV) (t29 t30 : Int) : f14.l0a k ln lf k_ t28n t28f t29 t30 =
  if decide (t30 < t29) = true then
    if 0 ≤ t30 then
      if t30 < (t28n : Int) then
        if hasSh .str (t28f t30.toNat) = true then
          if decide ((((t28f t30.toNat).toStr).size : Int) > 400) = true then
            (D 47 []).bind fun r4 => if hasSh .bool r4 = true then
            some (.sc (.bool r4.toBool))
            else none
          else
            f14.l0a k ln lf k_ t28n t28f t29 (IntKind.i64.wrap (t30 + 1))
        else none
      else none
    else none
  else
    (D 60 [.lst 1 ln lf]).bind fun r5 => if hasSh (.tup [.str, .bool]) r5 = true then
    (D 61 [.lst 1 ln lf]).bind fun r6 => if hasSh (.agg [.str, .bool]) r6 = true then
    Option.bind (α := PV) (
      if (!(((cel 0 r5.parts).toStr).toList == ((cel 0 r6.cells).toStr).toList)) = true then
        some (.sc (.bool true))
      else
        some (.sc (.bool (!(((cel 1 r5.parts).toBool) == ((cel 1 r6.cells).toBool)))))) fun r7 =>
    if r7.toBool = true then
      some (.sc (.bool false))
    else
      if 0 ≤ k_ then
        if k_ ≤ (ln : Int) then
          if 0 ≤ k_ then
            (D 60 [.lst 1 ((k_ - (0 : Int)).toNat) (fun i => lf (0 + i))]).bind fun r8 => if hasSh (.tup [.str, .bool]) r8 = true then
            if 0 ≤ (ln : Int) then
              if (ln : Int) ≤ (ln : Int) then
                if 0 ≤ k_ then
                  if k_ ≤ (ln : Int) then
                    (D 60 [.lst 1 (((ln : Int) - k_).toNat) (fun i => lf (k_.toNat + i))]).bind fun r9 => if hasSh (.tup [.str, .bool]) r9 = true then
                    Option.bind (α := PV) (
                      if (!((cel 1 r5.parts).toBool)) = true then
                        some (.sc (.bool true))
                      else
                        Option.bind (α := PV) (
                          Option.bind (α := PV) (
                            if (cel 1 r8.parts).toBool = true then
                              some (.sc (.bool ((cel 1 r9.parts).toBool)))
                            else
                              some (.sc (.bool false))) fun r10 =>
                          Option.bind (α := PV) (
                            Option.bind (α := PV) (
                              if r10.toBool = true then
                                Option.bind (α := PV) (
                                  Option.bind (α := PV) (
                                    if ((cel 0 r8.parts).toStr).size + ((cel 0 r9.parts).toStr).size ≤ 9223372036854775807 then
                                      some (.sc (.bool ((((cel 0 r8.parts).toStr) ++ ((cel 0 r9.parts).toStr)).toList == ((cel 0 r5.parts).toStr).toList)))
                                    else none) fun r11 =>
                                  some (.sc (.bool r11.toBool))) fun r12 =>
                                some (.sc (.bool r12.toBool))
                              else
                                some (.sc (.bool false))) fun r13 =>
                            some (.sc (.bool r13.toBool))) fun r14 =>
                          some (.sc (.bool r14.toBool))) fun r15 =>
                        some (.sc (.bool r15.toBool))) fun r16 =>
                    Option.bind (α := PV) (
                      if r16.toBool = true then
                        (D 47 []).bind fun r17 => if hasSh .bool r17 = true then
                        some (.sc (.bool r17.toBool))
                        else none
                      else
                        some (.sc (.bool false))) fun r18 =>
                    some (.sc (.bool r18.toBool))
                    else none
                  else none
                else none
              else none
            else none
            else none
          else none
        else none
      else none
    else none
    else none :=
  (loopAt_eq _ _ _ _).trans (by kernel_rfl)
-- oculus/oculuslaw14.alive
theorem f47_eq (k : Nat)  : D 47 [] =
  (D 48 [.sc (.string (⟨#[98, 97, 110, 97, 110, 97]⟩ : ByteArray)), .sc (.string (⟨#[97, 110]⟩ : ByteArray)), .sc (.string (⟨#[120]⟩ : ByteArray))]).bind fun r1 => if hasSh (.tup [.str, .bool]) r1 = true then
  (D 52 [.sc (.int .i64 (-15)), .sc (.int .i64 3)]).bind fun r2 => if hasSh (.tup [.str, .bool]) r2 = true then
  (D 50 [.sc (.string (⟨#[97, 98]⟩ : ByteArray)), .sc (.int .i64 129)]).bind fun r3 => if hasSh (.tup [.str, .bool]) r3 = true then
  Option.bind (α := PV) (
    if (cel 1 r1.parts).toBool = true then
      some (.sc (.bool ((cel 1 r2.parts).toBool)))
    else
      some (.sc (.bool false))) fun r4 =>
  Option.bind (α := PV) (
    if r4.toBool = true then
      some (.sc (.bool (!((cel 1 r3.parts).toBool))))
    else
      some (.sc (.bool false))) fun r5 =>
  Option.bind (α := PV) (
    if r5.toBool = true then
      some (.sc (.bool (((cel 0 r1.parts).toStr).toList == (⟨#[98, 120, 120, 97]⟩ : ByteArray).toList)))
    else
      some (.sc (.bool false))) fun r6 =>
  Option.bind (α := PV) (
    if r6.toBool = true then
      some (.sc (.bool (((cel 0 r2.parts).toStr).toList == (⟨#[45, 48, 46, 48, 48, 50]⟩ : ByteArray).toList)))
    else
      some (.sc (.bool false))) fun r7 =>
  Option.bind (α := PV) (
    if r7.toBool = true then
      (D 56 [.sc (.string (⟨#[111, 78, 32, 97, 49, 66]⟩ : ByteArray))]).bind fun r8 => if hasSh .str r8 = true then
      some (.sc (.bool (r8.toStr.toList == (⟨#[79, 110, 32, 65, 49, 66]⟩ : ByteArray).toList)))
      else none
    else
      some (.sc (.bool false))) fun r9 =>
  Option.bind (α := PV) (
    if r9.toBool = true then
      (D 57 [.sc (.string (⟨#[32, 32, 97, 32, 32, 32, 98, 32]⟩ : ByteArray))]).bind fun r10 => if hasSh .str r10 = true then
      some (.sc (.bool (r10.toStr.toList == (⟨#[97, 32, 98]⟩ : ByteArray).toList)))
      else none
    else
      some (.sc (.bool false))) fun r11 =>
  some (.sc (.bool r11.toBool))
  else none
  else none
  else none :=
  (denI_eq k _ _).trans (by kernel_rfl)
-- oculus/text.Put
theorem f48_eq (k : Nat) (t old with_ : ByteArray) : D 48 [.sc (.string t), .sc (.string old), .sc (.string with_)] =
  if (!(old.toList == (⟨#[]⟩ : ByteArray).toList)) = true then
    (D 107 [.sc (.string t), .sc (.string old)]).bind fun r1 => if hasSh (.int .i64) r1 = true then
    Option.bind (α := PV) (
      if decide ((IntKind.i64.wrap ((t.size : Int) - (IntKind.i64.wrap (r1.toInt * (old.size : Int))))) > 256) = true then
        some (.sc (.bool true))
      else
        Option.bind (α := PV) (
          Option.bind (α := PV) (
            Option.bind (α := PV) (
              if decide (r1.toInt > 0) = true then
                Option.bind (α := PV) (
                  Option.bind (α := PV) (
                    Option.bind (α := PV) (
                      Option.bind (α := PV) (
                        Option.bind (α := PV) (
                          if IntKind.i64 = IntKind.i64 ∧ r1.toInt ≠ 0 then
                            some (.sc (.bool (decide ((with_.size : Int) > (IntKind.i64.wrap ((IntKind.i64.wrap ((256 : Int) - (IntKind.i64.wrap ((t.size : Int) - (IntKind.i64.wrap (r1.toInt * (old.size : Int))))))).tdiv r1.toInt))))))
                          else none) fun r2 =>
                        some (.sc (.bool r2.toBool))) fun r3 =>
                      some (.sc (.bool r3.toBool))) fun r4 =>
                    some (.sc (.bool r4.toBool))) fun r5 =>
                  some (.sc (.bool r5.toBool))) fun r6 =>
                some (.sc (.bool r6.toBool))
              else
                some (.sc (.bool false))) fun r7 =>
            some (.sc (.bool r7.toBool))) fun r8 =>
          some (.sc (.bool r8.toBool))) fun r9 =>
        some (.sc (.bool r9.toBool))) fun r10 =>
    if r10.toBool = true then
      some (.tup [.sc (.string (⟨#[]⟩ : ByteArray)), .sc (.bool false)])
    else
      if (r1.toInt == 0) = true then
        some (.tup [.sc (.string t), .sc (.bool true)])
      else
        (D 108 [.sc (.string t), .sc (.string old), .sc (.string with_)]).bind fun r11 => if hasSh .str r11 = true then
        some (.tup [.sc (.string r11.toStr), .sc (.bool true)])
        else none
    else none
  else
    Option.bind (α := PV) (
      if decide ((IntKind.i64.wrap ((t.size : Int) - (IntKind.i64.wrap ((0 : Int) * (old.size : Int))))) > 256) = true then
        some (.sc (.bool true))
      else
        some (.sc (.bool false))) fun r12 =>
    if r12.toBool = true then
      some (.tup [.sc (.string (⟨#[]⟩ : ByteArray)), .sc (.bool false)])
    else
      some (.tup [.sc (.string t), .sc (.bool true)]) :=
  (denI_eq k _ _).trans (by kernel_rfl)
-- oculus/text.Rept
theorem f50_eq (k : Nat) (t : ByteArray) (n_ : Int) : D 50 [.sc (.string t), .sc (.int .i64 n_)] =
  Option.bind (α := PV) (
    if decide (n_ < 0) = true then
      some (.sc (.bool true))
    else
      Option.bind (α := PV) (
        Option.bind (α := PV) (
          Option.bind (α := PV) (
            Option.bind (α := PV) (
              if decide ((t.size : Int) > 0) = true then
                Option.bind (α := PV) (
                  Option.bind (α := PV) (
                    Option.bind (α := PV) (
                      if IntKind.i64 = IntKind.i64 ∧ (t.size : Int) ≠ 0 then
                        some (.sc (.bool (decide (n_ > (IntKind.i64.wrap ((256 : Int).tdiv (t.size : Int)))))))
                      else none) fun r1 =>
                    some (.sc (.bool r1.toBool))) fun r2 =>
                  some (.sc (.bool r2.toBool))) fun r3 =>
                some (.sc (.bool r3.toBool))
              else
                some (.sc (.bool false))) fun r4 =>
            some (.sc (.bool r4.toBool))) fun r5 =>
          some (.sc (.bool r5.toBool))) fun r6 =>
        some (.sc (.bool r6.toBool))) fun r7 =>
      some (.sc (.bool r7.toBool))) fun r8 =>
  if r8.toBool = true then
    some (.tup [.sc (.string (⟨#[]⟩ : ByteArray)), .sc (.bool false)])
  else
    if (t.toList == (⟨#[]⟩ : ByteArray).toList) = true then
      some (.tup [.sc (.string (⟨#[]⟩ : ByteArray)), .sc (.bool true)])
    else
      (D 110 [.sc (.string t), .sc (.int .i64 n_)]).bind fun r9 => if hasSh .str r9 = true then
      some (.tup [.sc (.string r9.toStr), .sc (.bool true)])
      else none :=
  (denI_eq k _ _).trans (by kernel_rfl)
-- oculus/text.Fixed
theorem f52_eq (k : Nat) (x_ places : Int) : D 52 [.sc (.int .i64 x_), .sc (.int .i64 places)] =
  Option.bind (α := PV) (
    if decide (places < 0) = true then
      some (.sc (.bool true))
    else
      some (.sc (.bool (decide (places > 4))))) fun r1 =>
  Option.bind (α := PV) (
    if r1.toBool = true then
      some (.sc (.bool true))
    else
      Option.bind (α := PV) (
        (D 62 [.sc (.int .i64 x_)]).bind fun r2 => if hasSh .bool r2 = true then
        some (.sc (.bool (!r2.toBool)))
        else none) fun r3 =>
      some (.sc (.bool r3.toBool))) fun r4 =>
  if r4.toBool = true then
    some (.tup [.sc (.string (⟨#[]⟩ : ByteArray)), .sc (.bool false)])
  else
    (D 111 [.sc (.int .i64 x_), .sc (.int .i64 places), .sc (.int .i64 1)]).bind fun r5 => if hasSh (.tup [(.int .i64), .bool]) r5 = true then
    if (!((cel 1 r5.parts).toBool)) = true then
      some (.tup [.sc (.string (⟨#[]⟩ : ByteArray)), .sc (.bool false)])
    else
      (D 15 [.sc (.int .i64 ((cel 0 r5.parts).toInt))]).bind fun r6 => if hasSh .str r6 = true then
      (D 67 [.sc (.string r6.toStr), .sc (.string (⟨#[46]⟩ : ByteArray))]).bind fun r7 => if hasSh (.tup [.str, .str, .bool]) r7 = true then
      if (places == 0) = true then
        some (.tup [.sc (.string ((cel 0 r7.parts).toStr)), .sc (.bool true)])
      else
        if ((cel 0 r7.parts).toStr).size + 1 ≤ 9223372036854775807 then
          if (((cel 0 r7.parts).toStr) ++ (⟨#[46]⟩ : ByteArray)).size + ((cel 1 r7.parts).toStr).size ≤ 9223372036854775807 then
            (D 110 [.sc (.string (⟨#[48]⟩ : ByteArray)), .sc (.int .i64 (IntKind.i64.wrap (places - (((cel 1 r7.parts).toStr).size : Int))))]).bind fun r8 => if hasSh .str r8 = true then
            if ((((cel 0 r7.parts).toStr) ++ (⟨#[46]⟩ : ByteArray)) ++ ((cel 1 r7.parts).toStr)).size + r8.toStr.size ≤ 9223372036854775807 then
              some (.tup [.sc (.string (((((cel 0 r7.parts).toStr) ++ (⟨#[46]⟩ : ByteArray)) ++ ((cel 1 r7.parts).toStr)) ++ r8.toStr)), .sc (.bool true)])
            else none
            else none
          else none
        else none
      else none
      else none
    else none :=
  (denI_eq k _ _).trans (by kernel_rfl)
-- oculus/digits.Text
noncomputable def f15.j0a (k : Nat) (x_ : Int) (out : ByteArray) : Option PV := gateK k (placeAt Tryd.prog cf ext hint k 15 [1, 1, 1, 1]) ⟨[.sc (.int .i64 x_), .top, .top, .sc (.string out), .top, .top, .top, .top, .top, .top, .top, .top, .top, .top, .top, .top, .top, .top, .top, .top, .top, .top, .top, .top, .top, .top, .top, .top, .top, .top, .top, .top, .top, .top, .top, .top, .top, .top], [], none⟩
theorem f15_eq (k : Nat) (x_ : Int) : D 15 [.sc (.int .i64 x_)] =
  (D 62 [.sc (.int .i64 x_)]).bind fun r1 => if hasSh .bool r1 = true then
  if (!r1.toBool) = true then
    some (.sc (.string (⟨#[]⟩ : ByteArray)))
  else
    (D 64 [.sc (.int .i64 x_)]).bind fun r2 => if hasSh (.int .i64) r2 = true then
    (D 63 [.sc (.int .i64 r2.toInt), .sc (.int .i64 10)]).bind fun r3 => if hasSh .str r3 = true then
    Option.bind (α := PV) (
      if decide (x_ < 0) = true then
        some (.sc (.bool (decide (x_ > (-10000)))))
      else
        some (.sc (.bool false))) fun r4 =>
    if r4.toBool = true then
      if 1 + r3.toStr.size ≤ 9223372036854775807 then
        f15.j0a k x_ ((⟨#[45]⟩ : ByteArray) ++ r3.toStr)
      else none
    else
      f15.j0a k x_ r3.toStr
    else none
    else none
  else none :=
  (denI_eq k _ _).trans (by kernel_rfl)
theorem f15.j0a_eq (k : Nat) (x_ : Int) (out : ByteArray) : f15.j0a k x_ out =
  if ((x_.tmod 10000) == 0) = true then
    some (.sc (.string out))
  else
    (D 63 [.sc (.int .i64 (IntKind.i64.wrap ((10000 : Int) + (if IntKind.i64.wrap (0 - (x_.tmod 10000)) > x_.tmod 10000 then IntKind.i64.wrap (0 - (x_.tmod 10000)) else x_.tmod 10000)))), .sc (.int .i64 10)]).bind fun r5 => if hasSh .str r5 = true then
    if 0 ≤ (r5.toStr.size : Int) then
      if (r5.toStr.size : Int) ≤ (r5.toStr.size : Int) then
        if 1 ≤ (r5.toStr.size : Int) then
          if out.size + 1 ≤ 9223372036854775807 then
            (D 65 [.sc (.string (r5.toStr.extract 1 (r5.toStr.size : Int).toNat)), .sc (.string (⟨#[48]⟩ : ByteArray))]).bind fun r6 => if hasSh .str r6 = true then
            if (out ++ (⟨#[46]⟩ : ByteArray)).size + r6.toStr.size ≤ 9223372036854775807 then
              some (.sc (.string ((out ++ (⟨#[46]⟩ : ByteArray)) ++ r6.toStr)))
            else none
            else none
          else none
        else none
      else none
    else none
    else none :=
  (gateK_open _ _ _).trans (by kernel_rfl)
-- oculus/dec.May
theorem f62_eq (k : Nat) (x_ : Int) : D 62 [.sc (.int .i64 x_)] =
  some (.sc (.bool (x_ != (-9223372036854775808)))) :=
  (denI_eq k _ _).trans (by kernel_rfl)
-- oculus/dec.Units
theorem f64_eq (k : Nat) (x_ : Int) : D 64 [.sc (.int .i64 x_)] =
  (D 62 [.sc (.int .i64 x_)]).bind fun r1 => if hasSh .bool r1 = true then
  if (!r1.toBool) = true then
    some (.sc (.int .i64 0))
  else
    some (.sc (.int .i64 (IntKind.i64.wrap (x_.tdiv 10000))))
  else none :=
  (denI_eq k _ _).trans (by kernel_rfl)
-- oculus/round.Places
noncomputable def f111.l0a (k : Nat) (x_ mode step t13 t14 : Int) : Option PV := loopAt Tryd.prog cf ext hint k 111 [1, 1, 1, 0, 1, 0] ⟨[.sc (.int .i64 x_), .top, .sc (.int .i64 mode), .top, .top, .top, .top, .top, .sc (.int .i64 step), .top, .top, .top, .top, .sc (.int .i64 t13), .sc (.int .i64 t14), .top, .top, .top, .top, .top, .top, .top, .top, .top, .top], [], none⟩
theorem f111_eq (k : Nat) (x_ places mode : Int) : D 111 [.sc (.int .i64 x_), .sc (.int .i64 places), .sc (.int .i64 mode)] =
  if decide (places < (-14)) = true then
    some (.tup [.sc (.int .i64 0), .sc (.bool false)])
  else
    f111.l0a k x_ mode 1 (IntKind.i64.wrap ((4 : Int) - (if 4 < places then 4 else places))) 0 :=
  (denI_eq k _ _).trans (by kernel_rfl)
theorem f111.l0a_eq (k : Nat) (x_ mode step t13 t14 : Int) : f111.l0a k x_ mode step t13 t14 =
  if decide (t14 < t13) = true then
    f111.l0a k x_ mode (IntKind.i64.wrap (step * 10)) t13 (IntKind.i64.wrap (t14 + 1))
  else
    (D 154 [.sc (.int .i64 x_), .sc (.int .i64 step), .sc (.int .i64 mode)]).bind fun r1 => if hasSh (.tup [(.int .i64), .bool]) r1 = true then
    some (.tup [.sc (.int .i64 ((cel 0 r1.parts).toInt)), .sc (.bool ((cel 1 r1.parts).toBool))])
    else none :=
  (loopAt_eq _ _ _ _).trans (by kernel_rfl)
-- oculus/round.Step
noncomputable def f154.j0a (k : Nat) (x_ step mode rest low away : Int) : Option PV := gateK k (placeAt Tryd.prog cf ext hint k 154 [1, 1, 1, 1, 1, 1, 1]) ⟨[.sc (.int .i64 x_), .sc (.int .i64 step), .sc (.int .i64 mode), .top, .top, .top, .top, .top, .sc (.int .i64 rest), .sc (.int .i64 low), .sc (.int .i64 away), .top, .top, .top, .top, .top, .top, .top, .top, .top, .top, .top, .top, .top, .top, .top, .top, .top, .top, .top, .top, .top, .top, .top, .top, .top, .top, .top, .top, .top, .top, .top, .top, .top, .top, .top, .top, .top, .top, .top, .top, .top, .top, .top, .top, .top, .top, .top, .top, .top, .top, .top, .top, .top, .top, .top, .top, .top, .top, .top, .top, .top, .top, .top, .top, .top, .top, .top, .top, .top, .top, .top, .top, .top, .top], [], none⟩
theorem f154_eq (k : Nat) (x_ step mode : Int) : D 154 [.sc (.int .i64 x_), .sc (.int .i64 step), .sc (.int .i64 mode)] =
  Option.bind (α := PV) (
    if decide (step ≤ 0) = true then
      some (.sc (.bool true))
    else
      Option.bind (α := PV) (
        (D 62 [.sc (.int .i64 x_)]).bind fun r1 => if hasSh .bool r1 = true then
        some (.sc (.bool (!r1.toBool)))
        else none) fun r2 =>
      some (.sc (.bool r2.toBool))) fun r3 =>
  Option.bind (α := PV) (
    if r3.toBool = true then
      some (.sc (.bool true))
    else
      some (.sc (.bool (decide (mode < 1))))) fun r4 =>
  Option.bind (α := PV) (
    if r4.toBool = true then
      some (.sc (.bool true))
    else
      some (.sc (.bool (decide (mode > 5))))) fun r5 =>
  if r5.toBool = true then
    some (.tup [.sc (.int .i64 0), .sc (.bool false)])
  else
    if IntKind.i64 = IntKind.i64 ∧ step ≠ 0 then
      if ((x_.tmod step) == 0) = true then
        some (.tup [.sc (.int .i64 x_), .sc (.bool true)])
      else
        if decide (x_ < 0) = true then
          f154.j0a k x_ step mode (x_.tmod step) (IntKind.i64.wrap (x_ - (x_.tmod step))) (IntKind.i64.wrap (0 - step))
        else
          f154.j0a k x_ step mode (x_.tmod step) (IntKind.i64.wrap (x_ - (x_.tmod step))) step
    else none :=
  (denI_eq k _ _).trans (by kernel_rfl)
theorem f154.j0a_eq (k : Nat) (x_ step mode rest low away : Int) : f154.j0a k x_ step mode rest low away =
  if (mode == 1) = true then
    if decide ((if IntKind.i64.wrap (0 - rest) > rest then IntKind.i64.wrap (0 - rest) else rest) < (IntKind.i64.wrap (step - (if IntKind.i64.wrap (0 - rest) > rest then IntKind.i64.wrap (0 - rest) else rest)))) = true then
      some (.tup [.sc (.int .i64 low), .sc (.bool true)])
    else
      (D 100 [.sc (.int .i64 low), .sc (.int .i64 away)]).bind fun r6 => if hasSh (.tup [(.int .i64), .bool]) r6 = true then
      some (.tup [.sc (.int .i64 ((cel 0 r6.parts).toInt)), .sc (.bool ((cel 1 r6.parts).toBool))])
      else none
  else
    if (mode == 3) = true then
      (D 100 [.sc (.int .i64 low), .sc (.int .i64 away)]).bind fun r7 => if hasSh (.tup [(.int .i64), .bool]) r7 = true then
      some (.tup [.sc (.int .i64 ((cel 0 r7.parts).toInt)), .sc (.bool ((cel 1 r7.parts).toBool))])
      else none
    else
      if (mode == 4) = true then
        if decide (x_ < 0) = true then
          (D 100 [.sc (.int .i64 low), .sc (.int .i64 away)]).bind fun r8 => if hasSh (.tup [(.int .i64), .bool]) r8 = true then
          some (.tup [.sc (.int .i64 ((cel 0 r8.parts).toInt)), .sc (.bool ((cel 1 r8.parts).toBool))])
          else none
        else
          some (.tup [.sc (.int .i64 low), .sc (.bool true)])
      else
        if (mode == 5) = true then
          if decide (x_ > 0) = true then
            (D 100 [.sc (.int .i64 low), .sc (.int .i64 away)]).bind fun r9 => if hasSh (.tup [(.int .i64), .bool]) r9 = true then
            some (.tup [.sc (.int .i64 ((cel 0 r9.parts).toInt)), .sc (.bool ((cel 1 r9.parts).toBool))])
            else none
          else
            some (.tup [.sc (.int .i64 low), .sc (.bool true)])
        else
          some (.tup [.sc (.int .i64 low), .sc (.bool true)]) :=
  (gateK_open _ _ _).trans (by kernel_rfl)
-- oculus/dec.Add
theorem f100_eq (k : Nat) (a b : Int) : D 100 [.sc (.int .i64 a), .sc (.int .i64 b)] =
  (D 62 [.sc (.int .i64 a)]).bind fun r1 => if hasSh .bool r1 = true then
  Option.bind (α := PV) (
    if (!r1.toBool) = true then
      some (.sc (.bool true))
    else
      Option.bind (α := PV) (
        (D 62 [.sc (.int .i64 b)]).bind fun r2 => if hasSh .bool r2 = true then
        some (.sc (.bool (!r2.toBool)))
        else none) fun r3 =>
      some (.sc (.bool r3.toBool))) fun r4 =>
  Option.bind (α := PV) (
    if r4.toBool = true then
      some (.sc (.bool true))
    else
      Option.bind (α := PV) (
        (D 62 [.sc (.int .i64 (IntKind.i64.wrap (a + b)))]).bind fun r5 => if hasSh .bool r5 = true then
        some (.sc (.bool (!r5.toBool)))
        else none) fun r6 =>
      some (.sc (.bool r6.toBool))) fun r7 =>
  Option.bind (α := PV) (
    if r7.toBool = true then
      some (.sc (.bool true))
    else
      Option.bind (α := PV) (
        Option.bind (α := PV) (
          Option.bind (α := PV) (
            if decide (a > 0) = true then
              some (.sc (.bool (decide (b > 0))))
            else
              some (.sc (.bool false))) fun r8 =>
          Option.bind (α := PV) (
            Option.bind (α := PV) (
              if r8.toBool = true then
                some (.sc (.bool (decide ((IntKind.i64.wrap (a + b)) < 0))))
              else
                some (.sc (.bool false))) fun r9 =>
            some (.sc (.bool r9.toBool))) fun r10 =>
          some (.sc (.bool r10.toBool))) fun r11 =>
        some (.sc (.bool r11.toBool))) fun r12 =>
      some (.sc (.bool r12.toBool))) fun r13 =>
  Option.bind (α := PV) (
    if r13.toBool = true then
      some (.sc (.bool true))
    else
      Option.bind (α := PV) (
        Option.bind (α := PV) (
          Option.bind (α := PV) (
            if decide (a < 0) = true then
              some (.sc (.bool (decide (b < 0))))
            else
              some (.sc (.bool false))) fun r14 =>
          Option.bind (α := PV) (
            Option.bind (α := PV) (
              if r14.toBool = true then
                some (.sc (.bool (decide ((IntKind.i64.wrap (a + b)) ≥ 0))))
              else
                some (.sc (.bool false))) fun r15 =>
            some (.sc (.bool r15.toBool))) fun r16 =>
          some (.sc (.bool r16.toBool))) fun r17 =>
        some (.sc (.bool r17.toBool))) fun r18 =>
      some (.sc (.bool r18.toBool))) fun r19 =>
  if r19.toBool = true then
    some (.tup [.sc (.int .i64 0), .sc (.bool false)])
  else
    some (.tup [.sc (.int .i64 (IntKind.i64.wrap (a + b))), .sc (.bool true)])
  else none :=
  (denI_eq k _ _).trans (by kernel_rfl)
-- oculus/text.Proper
theorem f56_eq (k : Nat) (t : ByteArray) : D 56 [.sc (.string t)] =
  (D 113 [.sc (.string t), .sc (.int .i64 2)]).bind fun r1 => if hasSh .str r1 = true then
  some (.sc (.string r1.toStr))
  else none :=
  (denI_eq k _ _).trans (by kernel_rfl)
-- oculus/text.turn
noncomputable def f113.l0a (k : Nat) (way : Int) (inside : Bool) (t13 t14 : Int) (b : List PV) : Option PV := loopAt Tryd.prog cf ext hint k 113 [1, 1, 1, 0, 1, 0] ⟨[.top, .sc (.int .i64 way), .top, .top, .top, .buf 0 0, .sc (.bool inside), .top, .top, .top, .top, .top, .buf 0 0, .sc (.int .i64 t13), .sc (.int .i64 t14), .top, .top, .top, .top, .top, .top, .top, .top, .top, .top, .top, .top, .top, .top, .top, .top, .top, .top, .top, .top, .top, .top, .top, .top, .top, .top, .top, .top, .top, .top, .top, .top, .top], [.buf 4 0 b], none⟩
theorem f113_eq (k : Nat) (t : ByteArray) (way : Int) : D 113 [.sc (.string t), .sc (.int .i64 way)] =
  f113.l0a k way false ((strB t).length : Int) 0 (strB t) :=
  (denI_eq k _ _).trans (by kernel_rfl)
theorem f113.l0a_eq (k : Nat) (way : Int) (inside : Bool) (t13 t14 : Int) (b : List PV) : f113.l0a k way inside t13 t14 b =
  if decide (t14 < t13) = true then
    if 0 ≤ t14 then
      if t14 < (b.length : Int) then
        if hasSh (.int .u8) (b.getD t14.toNat .top) = true then
          Option.bind (α := PV) (
            if decide ((bits .andNot .u8 ((b.getD t14.toNat .top).toInt) 32) < 65) = true then
              some (.sc (.bool true))
            else
              some (.sc (.bool (decide ((bits .andNot .u8 ((b.getD t14.toNat .top).toInt) 32) > 90))))) fun r1 =>
          if r1.toBool = true then
            f113.l0a k way false t13 (IntKind.i64.wrap (t14 + 1)) b
          else
            if 0 ≤ t14 then
              if t14 < (b.length : Int) then
                if hasSh (.int .u8) (b.getD t14.toNat .top) = true then
                  if t14.toNat < b.length then
                    Option.bind (α := PV) (
                      if (way == 1) = true then
                        some (.sc (.bool true))
                      else
                        Option.bind (α := PV) (
                          Option.bind (α := PV) (
                            Option.bind (α := PV) (
                              if (way == 2) = true then
                                some (.sc (.bool inside))
                              else
                                some (.sc (.bool false))) fun r2 =>
                            some (.sc (.bool r2.toBool))) fun r3 =>
                          some (.sc (.bool r3.toBool))) fun r4 =>
                        some (.sc (.bool r4.toBool))) fun r5 =>
                    if r5.toBool = true then
                      if 0 ≤ t14 then
                        if t14 < ((b.set t14.toNat (.sc (.int .u8 (bits .andNot .u8 ((b.getD t14.toNat .top).toInt) 32)))).length : Int) then
                          if hasSh (.int .u8) ((b.set t14.toNat (.sc (.int .u8 (bits .andNot .u8 ((b.getD t14.toNat .top).toInt) 32)))).getD t14.toNat .top) = true then
                            if t14.toNat < (b.set t14.toNat (.sc (.int .u8 (bits .andNot .u8 ((b.getD t14.toNat .top).toInt) 32)))).length then
                              f113.l0a k way true t13 (IntKind.i64.wrap (t14 + 1)) ((b.set t14.toNat (.sc (.int .u8 (bits .andNot .u8 ((b.getD t14.toNat .top).toInt) 32)))).set t14.toNat (.sc (.int .u8 (bits .or .u8 (bits .andNot .u8 ((b.getD t14.toNat .top).toInt) 32) 32))))
                            else none
                          else none
                        else none
                      else none
                    else
                      f113.l0a k way true t13 (IntKind.i64.wrap (t14 + 1)) (b.set t14.toNat (.sc (.int .u8 (bits .andNot .u8 ((b.getD t14.toNat .top).toInt) 32))))
                  else none
                else none
              else none
            else none
        else none
      else none
    else none
  else
    if b.all (hasSh (.int .u8)) = true then
      some (.sc (.string (bytesOf b)))
    else none :=
  (loopAt_eq _ _ _ _).trans (by kernel_rfl)
-- oculus/text.Trim
noncomputable def f57.l0a (k : Nat) (t7n : Nat) (t7f : Nat → PV) (t8 t9 : Int) : Option PV := loopAt Tryd.prog cf ext hint k 57 [1, 1, 0, 1, 0] ⟨[.top, .top, .top, .ptr 0 0, .top, .top, .top, .lst 1 t7n t7f, .sc (.int .i64 t8), .sc (.int .i64 t9), .top, .top, .top, .top, .top, .top, .top, .top, .top, .top, .top, .top], [.cells 126 [.sc (.pointer none), .nils]], none⟩
noncomputable def f57.j1a (k : Nat) (w : ByteArray) (t7n : Nat) (t7f : Nat → PV) (t8 t9 : Int) (xs1 : List PV) : Option PV := gateK k (placeAt Tryd.prog cf ext hint k 57 [1, 1, 0, 1, 0, 0, 1, 1, 0, 0, 1, 1, 1]) ⟨[.top, .top, .top, .ptr 0 0, .top, .sc (.string w), .top, .lst 1 t7n t7f, .sc (.int .i64 t8), .sc (.int .i64 t9), .top, .top, .top, .top, .top, .top, .top, .top, .top, .top, .top, .top], [.cells 126 [.selfp 0, .buf 1 0], .buf 5 0 xs1], none⟩
noncomputable def f57.l0b (k : Nat) (t7n : Nat) (t7f : Nat → PV) (t8 t9 : Int) (xs1 : List PV) : Option PV := loopAt Tryd.prog cf ext hint k 57 [1, 1, 0, 1, 0] ⟨[.top, .top, .top, .ptr 0 0, .top, .top, .top, .lst 1 t7n t7f, .sc (.int .i64 t8), .sc (.int .i64 t9), .top, .top, .top, .top, .top, .top, .top, .top, .top, .top, .top, .top], [.cells 126 [.selfp 0, .buf 1 0], .buf 5 0 xs1], none⟩
theorem f57_eq (k : Nat) (t : ByteArray) : D 57 [.sc (.string t)] =
  (D 114 [.sc (.string t), .sc (.string (⟨#[32]⟩ : ByteArray))]).bind fun r1 => if hasSh (.lst 1) r1 = true then
  f57.l0a k r1.len r1.at (r1.len : Int) 0
  else none :=
  (denI_eq k _ _).trans (by kernel_rfl)
theorem f57.l0a_eq (k : Nat) (t7n : Nat) (t7f : Nat → PV) (t8 t9 : Int) : f57.l0a k t7n t7f t8 t9 =
  if decide (t9 < t8) = true then
    if 0 ≤ t9 then
      if t9 < (t7n : Int) then
        if hasSh .str (t7f t9.toNat) = true then
          if (((t7f t9.toNat).toStr).toList == (⟨#[]⟩ : ByteArray).toList) = true then
            f57.l0a k t7n t7f t8 (IntKind.i64.wrap (t9 + 1))
          else
            (D 115 [.hp [.iptr (.ptr 126 0 :: [.selfp 0, .buf 1 0]), .tup (.ptr 5 0 :: ([] : List PV))], .ptr 0 0]).bind fun r2 => if (isHand r2 && (false || objsOk fo115 (handObjs r2)) && retOk Tryd.prog 6 [3] (handRet r2)) = true then
            if decide (((handRet r2).toInt) > 0) = true then
              (D 116 [.hp [.iptr (.ptr 126 0 :: [.selfp 0, .buf 1 0]), .tup (.ptr 5 0 :: (hBuf 1 r2))], .ptr 0 0, .sc (.int .u8 32)]).bind fun r3 => if (isHand r3 && (false || objsOk fo116 (handObjs r3)) && retOk Tryd.prog 6 [130] (handRet r3)) = true then
              f57.j1a k ((t7f t9.toNat).toStr) t7n t7f t8 t9 (hBuf 1 r3)
              else none
            else
              f57.j1a k ((t7f t9.toNat).toStr) t7n t7f t8 t9 (hBuf 1 r2)
            else none
        else none
      else none
    else none
  else
    (D 118 [.hp [.iptr (.ptr 126 0 :: [.selfp 0, .buf 1 0]), .tup (.ptr 5 0 :: ([] : List PV))], .ptr 0 0]).bind fun r4 => if (isHand r4 && (true || objsOk fo118 (handObjs r4)) && retOk Tryd.prog 6 [9] (handRet r4)) = true then
    some (.sc (.string ((handRet r4).toStr)))
    else none :=
  (loopAt_eq _ _ _ _).trans (by kernel_rfl)
theorem f57.j1a_eq (k : Nat) (w : ByteArray) (t7n : Nat) (t7f : Nat → PV) (t8 t9 : Int) (xs1 : List PV) : f57.j1a k w t7n t7f t8 t9 xs1 =
  (D 117 [.hp [.iptr (.ptr 126 0 :: [.selfp 0, .buf 1 0]), .tup (.ptr 5 0 :: xs1)], .ptr 0 0, .sc (.string w)]).bind fun r5 => if (isHand r5 && (false || objsOk fo117 (handObjs r5)) && retOk Tryd.prog 6 [3, 130] (handRet r5)) = true then
  f57.l0b k t7n t7f t8 (IntKind.i64.wrap (t9 + 1)) (hBuf 1 r5)
  else none :=
  (gateK_open _ _ _).trans (by kernel_rfl)
theorem f57.l0b_eq (k : Nat) (t7n : Nat) (t7f : Nat → PV) (t8 t9 : Int) (xs1 : List PV) : f57.l0b k t7n t7f t8 t9 xs1 =
  if decide (t9 < t8) = true then
    if 0 ≤ t9 then
      if t9 < (t7n : Int) then
        if hasSh .str (t7f t9.toNat) = true then
          if (((t7f t9.toNat).toStr).toList == (⟨#[]⟩ : ByteArray).toList) = true then
            f57.l0b k t7n t7f t8 (IntKind.i64.wrap (t9 + 1)) xs1
          else
            (D 115 [.hp [.iptr (.ptr 126 0 :: [.selfp 0, .buf 1 0]), .tup (.ptr 5 0 :: xs1)], .ptr 0 0]).bind fun r6 => if (isHand r6 && (false || objsOk fo115 (handObjs r6)) && retOk Tryd.prog 6 [3] (handRet r6)) = true then
            if decide (((handRet r6).toInt) > 0) = true then
              (D 116 [.hp [.iptr (.ptr 126 0 :: [.selfp 0, .buf 1 0]), .tup (.ptr 5 0 :: (hBuf 1 r6))], .ptr 0 0, .sc (.int .u8 32)]).bind fun r7 => if (isHand r7 && (false || objsOk fo116 (handObjs r7)) && retOk Tryd.prog 6 [130] (handRet r7)) = true then
              f57.j1a k ((t7f t9.toNat).toStr) t7n t7f t8 t9 (hBuf 1 r7)
              else none
            else
              f57.j1a k ((t7f t9.toNat).toStr) t7n t7f t8 t9 (hBuf 1 r6)
            else none
        else none
      else none
    else none
  else
    (D 118 [.hp [.iptr (.ptr 126 0 :: [.selfp 0, .buf 1 0]), .tup (.ptr 5 0 :: xs1)], .ptr 0 0]).bind fun r8 => if (isHand r8 && (true || objsOk fo118 (handObjs r8)) && retOk Tryd.prog 6 [9] (handRet r8)) = true then
    some (.sc (.string ((handRet r8).toStr)))
    else none :=
  (loopAt_eq _ _ _ _).trans (by kernel_rfl)
-- (*strings.Builder).Len
theorem f115h_eq (k : Nat) (buf : List PV) : D 115 [.hp [.iptr (.ptr 126 0 :: [.selfp 0, .buf 1 0]), .tup (.ptr 5 0 :: buf)], .ptr 0 0] =
  some (.tup [.hp [.iptr (.ptr 126 0 :: [.selfp 0, .buf 1 0]), .tup (.ptr 5 0 :: buf)], .sc (.int .i64 (buf.length : Int))]) :=
  (denI_eq k _ _).trans (by kernel_rfl)
-- (*strings.Builder).WriteByte
theorem f116h_eq (k : Nat) (c : Int) (buf : List PV) : D 116 [.hp [.iptr (.ptr 126 0 :: [.selfp 0, .buf 1 0]), .tup (.ptr 5 0 :: buf)], .ptr 0 0, .sc (.int .u8 c)] =
  (D 157 [.hp [.iptr (.ptr 126 0 :: [.selfp 0, .buf 1 0]), .tup (.ptr 5 0 :: buf)], .ptr 0 0]).bind fun r1 => if (isHand r1 && (false || objsOk fo157 (handObjs r1)) && retOk Tryd.prog 6 [] (handRet r1)) = true then
  if ((hBuf 1 r1).length + ([.sc (.int .u8 c)] : List PV).length) * 1 ≤ 140737488355328 ∧ (hBuf 1 r1).length + ([.sc (.int .u8 c)] : List PV).length ≤ 140737488355328 then
    some (.tup [.hp [.iptr (.ptr 126 0 :: [.selfp 0, .buf 1 0]), .tup (.ptr 5 0 :: ((hBuf 1 r1) ++ ([.sc (.int .u8 c)] : List PV)))], .top])
  else none
  else none :=
  (denI_eq k _ _).trans (by kernel_rfl)
-- (*strings.Builder).WriteString
theorem f117h_eq (k : Nat) (s_ : ByteArray) (buf : List PV) : D 117 [.hp [.iptr (.ptr 126 0 :: [.selfp 0, .buf 1 0]), .tup (.ptr 5 0 :: buf)], .ptr 0 0, .sc (.string s_)] =
  (D 157 [.hp [.iptr (.ptr 126 0 :: [.selfp 0, .buf 1 0]), .tup (.ptr 5 0 :: buf)], .ptr 0 0]).bind fun r1 => if (isHand r1 && (false || objsOk fo157 (handObjs r1)) && retOk Tryd.prog 6 [] (handRet r1)) = true then
  if ((hBuf 1 r1).length + (strB s_).length) * 1 ≤ 140737488355328 ∧ (hBuf 1 r1).length + (strB s_).length ≤ 140737488355328 then
    some (.tup [.hp [.iptr (.ptr 126 0 :: [.selfp 0, .buf 1 0]), .tup (.ptr 5 0 :: ((hBuf 1 r1) ++ (strB s_)))], .tup [.sc (.int .i64 (s_.size : Int)), .top]])
  else none
  else none :=
  (denI_eq k _ _).trans (by kernel_rfl)
-- oculus/text.Join
noncomputable def f60.l0a (k : Nat) (t7n : Nat) (t7f : Nat → PV) (t8 t9 : Int) : Option PV := loopAt Tryd.prog cf ext hint k 60 [1, 1, 0, 1, 0] ⟨[.top, .top, .top, .top, .ptr 0 0, .top, .top, .lst 1 t7n t7f, .sc (.int .i64 t8), .sc (.int .i64 t9), .top, .top, .top, .top, .top, .top, .top, .top, .top, .top, .top, .top], [.cells 126 [.sc (.pointer none), .nils]], none⟩
noncomputable def f60.l0b (k : Nat) (t7n : Nat) (t7f : Nat → PV) (t8 t9 : Int) (xs1 : List PV) : Option PV := loopAt Tryd.prog cf ext hint k 60 [1, 1, 0, 1, 0] ⟨[.top, .top, .top, .top, .ptr 0 0, .top, .top, .lst 1 t7n t7f, .sc (.int .i64 t8), .sc (.int .i64 t9), .top, .top, .top, .top, .top, .top, .top, .top, .top, .top, .top, .top], [.cells 126 [.selfp 0, .buf 1 0], .buf 5 0 xs1], none⟩
theorem f60_eq (k : Nat) (ln : Nat) (lf : Nat → PV) : D 60 [.lst 1 ln lf] =
  f60.l0a k ln lf (ln : Int) 0 :=
  (denI_eq k _ _).trans (by kernel_rfl)
theorem f60.l0a_eq (k : Nat) (t7n : Nat) (t7f : Nat → PV) (t8 t9 : Int) : f60.l0a k t7n t7f t8 t9 =
  if decide (t9 < t8) = true then
    if 0 ≤ t9 then
      if t9 < (t7n : Int) then
        if hasSh .str (t7f t9.toNat) = true then
          (D 115 [.hp [.iptr (.ptr 126 0 :: [.selfp 0, .buf 1 0]), .tup (.ptr 5 0 :: ([] : List PV))], .ptr 0 0]).bind fun r1 => if (isHand r1 && (false || objsOk fo115 (handObjs r1)) && retOk Tryd.prog 6 [3] (handRet r1)) = true then
          if decide ((((t7f t9.toNat).toStr).size : Int) > (IntKind.i64.wrap ((256 : Int) - ((handRet r1).toInt)))) = true then
            some (.tup [.sc (.string (⟨#[]⟩ : ByteArray)), .sc (.bool false)])
          else
            (D 117 [.hp [.iptr (.ptr 126 0 :: [.selfp 0, .buf 1 0]), .tup (.ptr 5 0 :: (hBuf 1 r1))], .ptr 0 0, .sc (.string ((t7f t9.toNat).toStr))]).bind fun r2 => if (isHand r2 && (false || objsOk fo117 (handObjs r2)) && retOk Tryd.prog 6 [3, 130] (handRet r2)) = true then
            f60.l0b k t7n t7f t8 (IntKind.i64.wrap (t9 + 1)) (hBuf 1 r2)
            else none
          else none
        else none
      else none
    else none
  else
    (D 118 [.hp [.iptr (.ptr 126 0 :: [.selfp 0, .buf 1 0]), .tup (.ptr 5 0 :: ([] : List PV))], .ptr 0 0]).bind fun r3 => if (isHand r3 && (true || objsOk fo118 (handObjs r3)) && retOk Tryd.prog 6 [9] (handRet r3)) = true then
    some (.tup [.sc (.string ((handRet r3).toStr)), .sc (.bool true)])
    else none :=
  (loopAt_eq _ _ _ _).trans (by kernel_rfl)
theorem f60.l0b_eq (k : Nat) (t7n : Nat) (t7f : Nat → PV) (t8 t9 : Int) (xs1 : List PV) : f60.l0b k t7n t7f t8 t9 xs1 =
  if decide (t9 < t8) = true then
    if 0 ≤ t9 then
      if t9 < (t7n : Int) then
        if hasSh .str (t7f t9.toNat) = true then
          (D 115 [.hp [.iptr (.ptr 126 0 :: [.selfp 0, .buf 1 0]), .tup (.ptr 5 0 :: xs1)], .ptr 0 0]).bind fun r4 => if (isHand r4 && (false || objsOk fo115 (handObjs r4)) && retOk Tryd.prog 6 [3] (handRet r4)) = true then
          if decide ((((t7f t9.toNat).toStr).size : Int) > (IntKind.i64.wrap ((256 : Int) - ((handRet r4).toInt)))) = true then
            some (.tup [.sc (.string (⟨#[]⟩ : ByteArray)), .sc (.bool false)])
          else
            (D 117 [.hp [.iptr (.ptr 126 0 :: [.selfp 0, .buf 1 0]), .tup (.ptr 5 0 :: (hBuf 1 r4))], .ptr 0 0, .sc (.string ((t7f t9.toNat).toStr))]).bind fun r5 => if (isHand r5 && (false || objsOk fo117 (handObjs r5)) && retOk Tryd.prog 6 [3, 130] (handRet r5)) = true then
            f60.l0b k t7n t7f t8 (IntKind.i64.wrap (t9 + 1)) (hBuf 1 r5)
            else none
          else none
        else none
      else none
    else none
  else
    (D 118 [.hp [.iptr (.ptr 126 0 :: [.selfp 0, .buf 1 0]), .tup (.ptr 5 0 :: xs1)], .ptr 0 0]).bind fun r6 => if (isHand r6 && (true || objsOk fo118 (handObjs r6)) && retOk Tryd.prog 6 [9] (handRet r6)) = true then
    some (.tup [.sc (.string ((handRet r6).toStr)), .sc (.bool true)])
    else none :=
  (loopAt_eq _ _ _ _).trans (by kernel_rfl)
end ET
end Go.Den
