import Derived.Test.YtbkdoeghgdbjlaaDoorELh
import Derived.KernelRfl
set_option maxRecDepth 100000
set_option linter.unusedVariables false
namespace Go.Den
open Go Go.Proofs
namespace EL
-- oculus/lex.Text
noncomputable def f28.l0a (k : Nat) (t6n : Nat) (t6f : Nat → PV) (t7 t8 : Int) : Option PV := loopAt Tryd.prog cf ext hint k 28 [1, 1, 0, 1, 0] ⟨[.top, .top, .top, .nils, .top, .top, .lst 4 t6n t6f, .sc (.int .i64 t7), .sc (.int .i64 t8), .top, .top, .top, .top, .top, .top, .top, .top, .top, .top, .top, .top, .top, .top, .top, .top, .top, .top, .top, .top, .top, .top, .top, .top, .top, .top, .top, .top, .top, .top, .top, .top, .top, .top], [], none⟩
noncomputable def f28.l0b (k : Nat) (t6n : Nat) (t6f : Nat → PV) (t7 t8 : Int) (w : List PV) : Option PV := loopAt Tryd.prog cf ext hint k 28 [1, 1, 0, 1, 0] ⟨[.top, .top, .top, .buf 0 0, .top, .top, .lst 4 t6n t6f, .sc (.int .i64 t7), .sc (.int .i64 t8), .top, .top, .top, .top, .top, .top, .top, .top, .top, .top, .top, .top, .top, .top, .top, .top, .top, .top, .top, .top, .top, .top, .top, .top, .top, .top, .top, .top, .top, .top, .top, .top, .top, .top], [.buf 9 0 w], none⟩
theorem f28_eq (k : Nat) (ln : Nat) (lf : Nat → PV) : D 28 [.lst 4 ln lf] =
  f28.l0a k ln lf (ln : Int) 0 :=
  (denI_eq k _ _).trans (by kernel_rfl)
theorem f28.l0a_eq (k : Nat) (t6n : Nat) (t6f : Nat → PV) (t7 t8 : Int) : f28.l0a k t6n t6f t7 t8 =
  if decide (t8 < t7) = true then
    if 0 ≤ t8 then
      if t8 < (t6n : Int) then
        if hasSh (.agg [(.int .i64), (.int .i64), .str, (.int .i64)]) (t6f t8.toNat) = true then
          if (((cel 0 (t6f t8.toNat).cells).toInt) == 1) = true then
            (D 18 [.sc (.int .i64 ((cel 3 (t6f t8.toNat).cells).toInt))]).bind fun r1 => if hasSh .str r1 = true then
            if ([.sc (.string r1.toStr)] : List PV).length * 16 ≤ 140737488355328 ∧ ([.sc (.string r1.toStr)] : List PV).length ≤ 140737488355328 then
              f28.l0b k t6n t6f t7 (IntKind.i64.wrap (t8 + 1)) ([.sc (.string r1.toStr)] : List PV)
            else none
            else none
          else
            if (((cel 0 (t6f t8.toNat).cells).toInt) == 2) = true then
              (D 45 [.sc (.string ((cel 2 (t6f t8.toNat).cells).toStr)), .sc (.string (⟨#[34]⟩ : ByteArray)), .sc (.string (⟨#[34, 34]⟩ : ByteArray))]).bind fun r2 => if hasSh .str r2 = true then
              if 1 + r2.toStr.size ≤ 9223372036854775807 then
                if ((⟨#[34]⟩ : ByteArray) ++ r2.toStr).size + 1 ≤ 9223372036854775807 then
                  if ([.sc (.string (((⟨#[34]⟩ : ByteArray) ++ r2.toStr) ++ (⟨#[34]⟩ : ByteArray)))] : List PV).length * 16 ≤ 140737488355328 ∧ ([.sc (.string (((⟨#[34]⟩ : ByteArray) ++ r2.toStr) ++ (⟨#[34]⟩ : ByteArray)))] : List PV).length ≤ 140737488355328 then
                    f28.l0b k t6n t6f t7 (IntKind.i64.wrap (t8 + 1)) ([.sc (.string (((⟨#[34]⟩ : ByteArray) ++ r2.toStr) ++ (⟨#[34]⟩ : ByteArray)))] : List PV)
                  else none
                else none
              else none
              else none
            else
              if (((cel 0 (t6f t8.toNat).cells).toInt) == 3) = true then
                if ([.sc (.string ((cel 2 (t6f t8.toNat).cells).toStr))] : List PV).length * 16 ≤ 140737488355328 ∧ ([.sc (.string ((cel 2 (t6f t8.toNat).cells).toStr))] : List PV).length ≤ 140737488355328 then
                  f28.l0b k t6n t6f t7 (IntKind.i64.wrap (t8 + 1)) ([.sc (.string ((cel 2 (t6f t8.toNat).cells).toStr))] : List PV)
                else none
              else
                if (((cel 0 (t6f t8.toNat).cells).toInt) == 4) = true then
                  if ([.sc (.string ((cel 2 (t6f t8.toNat).cells).toStr))] : List PV).length * 16 ≤ 140737488355328 ∧ ([.sc (.string ((cel 2 (t6f t8.toNat).cells).toStr))] : List PV).length ≤ 140737488355328 then
                    f28.l0b k t6n t6f t7 (IntKind.i64.wrap (t8 + 1)) ([.sc (.string ((cel 2 (t6f t8.toNat).cells).toStr))] : List PV)
                  else none
                else
                  f28.l0a k t6n t6f t7 (IntKind.i64.wrap (t8 + 1))
        else none
      else none
    else none
  else
    (D 19 [.lst 1 0 (fun _ => .top), .sc (.string (⟨#[32]⟩ : ByteArray))]).bind fun r3 => if hasSh .str r3 = true then
    some (.sc (.string r3.toStr))
    else none :=
  (loopAt_eq _ _ _ _).trans (by kernel_rfl)
theorem f28.l0b_eq (k : Nat) (t6n : Nat) (t6f : Nat → PV) (t7 t8 : Int) (w : List PV) : f28.l0b k t6n t6f t7 t8 w =
  if decide (t8 < t7) = true then
    if 0 ≤ t8 then
      if t8 < (t6n : Int) then
        if hasSh (.agg [(.int .i64), (.int .i64), .str, (.int .i64)]) (t6f t8.toNat) = true then
          if (((cel 0 (t6f t8.toNat).cells).toInt) == 1) = true then
            (D 18 [.sc (.int .i64 ((cel 3 (t6f t8.toNat).cells).toInt))]).bind fun r4 => if hasSh .str r4 = true then
            if (w.length + ([.sc (.string r4.toStr)] : List PV).length) * 16 ≤ 140737488355328 ∧ w.length + ([.sc (.string r4.toStr)] : List PV).length ≤ 140737488355328 then
              f28.l0b k t6n t6f t7 (IntKind.i64.wrap (t8 + 1)) (w ++ ([.sc (.string r4.toStr)] : List PV))
            else none
            else none
          else
            if (((cel 0 (t6f t8.toNat).cells).toInt) == 2) = true then
              (D 45 [.sc (.string ((cel 2 (t6f t8.toNat).cells).toStr)), .sc (.string (⟨#[34]⟩ : ByteArray)), .sc (.string (⟨#[34, 34]⟩ : ByteArray))]).bind fun r5 => if hasSh .str r5 = true then
              if 1 + r5.toStr.size ≤ 9223372036854775807 then
                if ((⟨#[34]⟩ : ByteArray) ++ r5.toStr).size + 1 ≤ 9223372036854775807 then
                  if (w.length + ([.sc (.string (((⟨#[34]⟩ : ByteArray) ++ r5.toStr) ++ (⟨#[34]⟩ : ByteArray)))] : List PV).length) * 16 ≤ 140737488355328 ∧ w.length + ([.sc (.string (((⟨#[34]⟩ : ByteArray) ++ r5.toStr) ++ (⟨#[34]⟩ : ByteArray)))] : List PV).length ≤ 140737488355328 then
                    f28.l0b k t6n t6f t7 (IntKind.i64.wrap (t8 + 1)) (w ++ ([.sc (.string (((⟨#[34]⟩ : ByteArray) ++ r5.toStr) ++ (⟨#[34]⟩ : ByteArray)))] : List PV))
                  else none
                else none
              else none
              else none
            else
              if (((cel 0 (t6f t8.toNat).cells).toInt) == 3) = true then
                if (w.length + ([.sc (.string ((cel 2 (t6f t8.toNat).cells).toStr))] : List PV).length) * 16 ≤ 140737488355328 ∧ w.length + ([.sc (.string ((cel 2 (t6f t8.toNat).cells).toStr))] : List PV).length ≤ 140737488355328 then
                  f28.l0b k t6n t6f t7 (IntKind.i64.wrap (t8 + 1)) (w ++ ([.sc (.string ((cel 2 (t6f t8.toNat).cells).toStr))] : List PV))
                else none
              else
                if (((cel 0 (t6f t8.toNat).cells).toInt) == 4) = true then
                  if (w.length + ([.sc (.string ((cel 2 (t6f t8.toNat).cells).toStr))] : List PV).length) * 16 ≤ 140737488355328 ∧ w.length + ([.sc (.string ((cel 2 (t6f t8.toNat).cells).toStr))] : List PV).length ≤ 140737488355328 then
                    f28.l0b k t6n t6f t7 (IntKind.i64.wrap (t8 + 1)) (w ++ ([.sc (.string ((cel 2 (t6f t8.toNat).cells).toStr))] : List PV))
                  else none
                else
                  f28.l0b k t6n t6f t7 (IntKind.i64.wrap (t8 + 1)) w
        else none
      else none
    else none
  else
    (D 19 [frozen 1 w, .sc (.string (⟨#[32]⟩ : ByteArray))]).bind fun r6 => if hasSh .str r6 = true then
    some (.sc (.string r6.toStr))
    else none :=
  (loopAt_eq _ _ _ _).trans (by kernel_rfl)
-- oculus/digits.Text
noncomputable def f18.j0a (k : Nat) (x_ : Int) (out : ByteArray) : Option PV := gateK k (placeAt Tryd.prog cf ext hint k 18 [1, 1, 1, 1]) ⟨[.sc (.int .i64 x_), .top, .top, .sc (.string out), .top, .top, .top, .top, .top, .top, .top, .top, .top, .top, .top, .top, .top, .top, .top, .top, .top, .top, .top, .top, .top, .top, .top, .top, .top, .top, .top, .top, .top, .top, .top, .top, .top, .top], [], none⟩
theorem f18_eq (k : Nat) (x_ : Int) : D 18 [.sc (.int .i64 x_)] =
  (D 32 [.sc (.int .i64 x_)]).bind fun r1 => if hasSh .bool r1 = true then
  if (!r1.toBool) = true then
    some (.sc (.string (⟨#[]⟩ : ByteArray)))
  else
    (D 34 [.sc (.int .i64 x_)]).bind fun r2 => if hasSh (.int .i64) r2 = true then
    (D 33 [.sc (.int .i64 r2.toInt), .sc (.int .i64 10)]).bind fun r3 => if hasSh .str r3 = true then
    Option.bind (α := PV) (
      if decide (x_ < 0) = true then
        some (.sc (.bool (decide (x_ > (-10000)))))
      else
        some (.sc (.bool false))) fun r4 =>
    if r4.toBool = true then
      if 1 + r3.toStr.size ≤ 9223372036854775807 then
        f18.j0a k x_ ((⟨#[45]⟩ : ByteArray) ++ r3.toStr)
      else none
    else
      f18.j0a k x_ r3.toStr
    else none
    else none
  else none :=
  (denI_eq k _ _).trans (by kernel_rfl)
theorem f18.j0a_eq (k : Nat) (x_ : Int) (out : ByteArray) : f18.j0a k x_ out =
  if ((x_.tmod 10000) == 0) = true then
    some (.sc (.string out))
  else
    (D 33 [.sc (.int .i64 (IntKind.i64.wrap ((10000 : Int) + (if IntKind.i64.wrap (0 - (x_.tmod 10000)) > x_.tmod 10000 then IntKind.i64.wrap (0 - (x_.tmod 10000)) else x_.tmod 10000)))), .sc (.int .i64 10)]).bind fun r5 => if hasSh .str r5 = true then
    if 0 ≤ (r5.toStr.size : Int) then
      if (r5.toStr.size : Int) ≤ (r5.toStr.size : Int) then
        if 1 ≤ (r5.toStr.size : Int) then
          if out.size + 1 ≤ 9223372036854775807 then
            (D 35 [.sc (.string (r5.toStr.extract 1 (r5.toStr.size : Int).toNat)), .sc (.string (⟨#[48]⟩ : ByteArray))]).bind fun r6 => if hasSh .str r6 = true then
            if (out ++ (⟨#[46]⟩ : ByteArray)).size + r6.toStr.size ≤ 9223372036854775807 then
              some (.sc (.string ((out ++ (⟨#[46]⟩ : ByteArray)) ++ r6.toStr)))
            else none
            else none
          else none
        else none
      else none
    else none
    else none :=
  (gateK_open _ _ _).trans (by kernel_rfl)
-- oculus/dec.Units
theorem f34_eq (k : Nat) (x_ : Int) : D 34 [.sc (.int .i64 x_)] =
  (D 32 [.sc (.int .i64 x_)]).bind fun r1 => if hasSh .bool r1 = true then
  if (!r1.toBool) = true then
    some (.sc (.int .i64 0))
  else
    some (.sc (.int .i64 (IntKind.i64.wrap (x_.tdiv 10000))))
  else none :=
  (denI_eq k _ _).trans (by kernel_rfl)
-- oculus/oculuslaw21.moved
noncomputable def f13.l0a (k : Nat) (bn : Nat) (bf : Nat → PV) (t12n : Nat) (t12f : Nat → PV) (t13 t14 : Int) : Option PV := loopAt Tryd.prog cf ext hint k 13 [1, 1, 0, 1, 0] ⟨[.top, .lst 4 bn bf, .top, .top, .top, .top, .top, .top, .top, .top, .top, .top, .lst 4 t12n t12f, .sc (.int .i64 t13), .sc (.int .i64 t14), .top, .top, .top, .top, .top, .top, .top, .top, .top, .top, .top, .top, .top, .top, .top, .top, .top, .top, .top, .top, .top, .top, .top, .top, .top, .top, .top, .top, .top, .top, .top, .top, .top], [], none⟩
theorem f13_eq (k : Nat) (an : Nat) (af : Nat → PV) (bn : Nat) (bf : Nat → PV) : D 13 [.lst 4 an af, .lst 4 bn bf] =
  if ((an : Int) != (bn : Int)) = true then
    some (.sc (.bool false))
  else
    f13.l0a k bn bf an af (an : Int) 0 :=
  (denI_eq k _ _).trans (by kernel_rfl)
theorem f13.l0a_eq (k : Nat) (bn : Nat) (bf : Nat → PV) (t12n : Nat) (t12f : Nat → PV) (t13 t14 : Int) : f13.l0a k bn bf t12n t12f t13 t14 =
  if decide (t14 < t13) = true then
    if 0 ≤ t14 then
      if t14 < (t12n : Int) then
        if hasSh (.agg [(.int .i64), (.int .i64), .str, (.int .i64)]) (t12f t14.toNat) = true then
          if 0 ≤ t14 then
            if t14 < (bn : Int) then
              if hasSh (.agg [(.int .i64), (.int .i64), .str, (.int .i64)]) (bf t14.toNat) = true then
                Option.bind (α := PV) (
                  if (((cel 0 (t12f t14.toNat).cells).toInt) != ((cel 0 (bf t14.toNat).cells).toInt)) = true then
                    some (.sc (.bool true))
                  else
                    Option.bind (α := PV) (
                      Option.bind (α := PV) (
                        Option.bind (α := PV) (
                          Option.bind (α := PV) (
                            if 0 ≤ t14 then
                              if t14 < (bn : Int) then
                                if hasSh (.agg [(.int .i64), (.int .i64), .str, (.int .i64)]) (bf t14.toNat) = true then
                                  some (.sc (.bool (!(((cel 2 (t12f t14.toNat).cells).toStr).toList == ((cel 2 (bf t14.toNat).cells).toStr).toList))))
                                else none
                              else none
                            else none) fun r1 =>
                          some (.sc (.bool r1.toBool))) fun r2 =>
                        some (.sc (.bool r2.toBool))) fun r3 =>
                      some (.sc (.bool r3.toBool))) fun r4 =>
                    some (.sc (.bool r4.toBool))) fun r5 =>
                Option.bind (α := PV) (
                  if r5.toBool = true then
                    some (.sc (.bool true))
                  else
                    Option.bind (α := PV) (
                      Option.bind (α := PV) (
                        Option.bind (α := PV) (
                          Option.bind (α := PV) (
                            if 0 ≤ t14 then
                              if t14 < (bn : Int) then
                                if hasSh (.agg [(.int .i64), (.int .i64), .str, (.int .i64)]) (bf t14.toNat) = true then
                                  some (.sc (.bool (((cel 3 (t12f t14.toNat).cells).toInt) != ((cel 3 (bf t14.toNat).cells).toInt))))
                                else none
                              else none
                            else none) fun r6 =>
                          some (.sc (.bool r6.toBool))) fun r7 =>
                        some (.sc (.bool r7.toBool))) fun r8 =>
                      some (.sc (.bool r8.toBool))) fun r9 =>
                    some (.sc (.bool r9.toBool))) fun r10 =>
                if r10.toBool = true then
                  some (.sc (.bool false))
                else
                  f13.l0a k bn bf t12n t12f t13 (IntKind.i64.wrap (t14 + 1))
              else none
            else none
          else none
        else none
      else none
    else none
  else
    some (.sc (.bool true)) :=
  (loopAt_eq _ _ _ _).trans (by kernel_rfl)
end EL
end Go.Den
