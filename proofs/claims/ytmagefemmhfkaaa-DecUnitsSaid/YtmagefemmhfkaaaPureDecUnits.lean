/- DecUnits: the whole number, the sign, and whether it is whole, of every int64. -/
import Derived.Test.YtmagefemmhfkaaaQAddF
import Derived.Test.YtmagefemmhfkaaaPAx10
namespace Go.Proofs.Ytmagefemmhfkaaa.Pure
open Go Go.RowKit Go.Proofs.Ytmagefemmhfkaaa.PA Go.Proofs.YtmagefemmhfkaaaW.PrintWords Go.Proofs.YtmagefemmhfkaaaW.PrintLast Go.Proofs.YtmagefemmhfkaaaW.PrintMore Go.Proofs.Ytmagefemmhfkaaa.Q
set_option linter.unusedVariables false
set_option linter.unusedSimpArgs false

theorem units_j2 {x : Int} (hx : May x) {s : Int} (hs : s = if x < 0 then -1 else if x > 0 then 1 else 0) : Ev (fun k => oculuslaw08_DecUnits.j2 k x (x.tmod 10000) s false) true := by
  refine Ev.step (fun k => by rw [oculuslaw08_DecUnits.j2]) (Ev.neg (by decide) ?_)
  simp only [whole_f hx.i, Option.bind_some]
  have e : (decide (x.tmod 10000 = 0 ∧ May x) == (x.tmod 10000 == 0)) = true := by
    rw [beq_iff_eq, Bool.eq_iff_iff]; simp [hx]
  refine Ev.pos e ?_
  simp only [sign_f, Option.bind_some]
  exact Ev.pos hs.symm (Ev.bind alive08 (Ev.now _))
theorem units_j1 {x : Int} (hx : May x) {s : Int} (hs : s = if x < 0 then -1 else if x > 0 then 1 else 0) : Ev (fun k => oculuslaw08_DecUnits.j1 k x (x.tmod 10000) s) true := by
  have t := tdm x (m := 10000) (by decide)
  refine Ev.step (fun k => by rw [oculuslaw08_DecUnits.j1]) (Ev.neg (by omega) (Ev.neg (by omega) ?_))
  by_cases h : x.tmod 10000 > 0
  · refine Ev.pos h (Ev.neg (by omega) (Ev.neg (by omega) (units_j2 hx hs)))
  · refine Ev.neg h ?_
    by_cases h' : x.tmod 10000 < 0
    · refine Ev.pos h' ?_
      rw [decide_eq_false (by omega)]
      exact units_j2 hx hs
    · exact Ev.neg h' (units_j2 hx hs)
theorem DecUnits : oculuslaw08_DecUnits.Pure := by
  intro x hw
  have hx : I64 x := i64_of_wf hw
  refine Ev.rounds (g := fun k => oculuslaw08_DecUnits.f k x) (r := true) ?_
  refine Ev.congr (fun k => by rw [oculuslaw08_DecUnits.f, rmay_f hx.1 hx.2, Option.bind_some]) ?_
  by_cases hm : May x
  · have t := tdm x (m := 10000) (by decide)
    unfold I64 at hx
    refine Ev.pos (decide_eq_true hm) ?_
    simp only [units_f hm.i, if_pos hm, Option.bind_some]
    rw [w64 (x := x.tdiv 10000 * 10000) (by omega) (by omega), show x - x.tdiv 10000 * 10000 = x.tmod 10000 by omega, w64 (by omega) (by omega)]
    by_cases h : x < 0
    · refine Ev.pos h (Ev.step (fun k => by rw [oculuslaw08_DecUnits.j0]) (Ev.neg (by omega) (units_j1 hm (by rw [if_pos h]))))
    · refine Ev.neg h (Ev.step (fun k => by rw [oculuslaw08_DecUnits.j0]) ?_)
      by_cases h' : x > 0
      · exact Ev.pos h' (units_j1 hm (by rw [if_neg h, if_pos h']))
      · exact Ev.neg h' (units_j1 hm (by rw [if_neg h, if_neg h']))
  · refine Ev.neg (by rw [decide_eq_false hm]; decide) ?_
    refine Ev.some_bind (units_f hx) ?_
    rw [if_neg hm]
    refine Ev.pos rfl ?_
    rw [whole_f hx, decide_eq_false (fun h => hm h.2)]
    simp only [Option.bind_some]
    exact Ev.neg (by decide) (Ev.bind alive08 (Ev.now _))
end Go.Proofs.Ytmagefemmhfkaaa.Pure
