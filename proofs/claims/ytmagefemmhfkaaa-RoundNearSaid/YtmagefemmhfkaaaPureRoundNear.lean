/- RoundNear: what is rounded is a multiple of the step, near, on the mode's side, and stays when rounded again: of all int64s and every mode. -/
import Derived.Test.YtmagefemmhfkaaaQRoundF
import Derived.Test.YtmagefemmhfkaaaPBx13
namespace Go.Proofs.Ytmagefemmhfkaaa.Pure
open Go Go.RowKit Go.Proofs.Ytmagefemmhfkaaa.PA Go.Proofs.YtmagefemmhfkaaaW.PrintWords Go.Proofs.YtmagefemmhfkaaaW.PrintLast Go.Proofs.YtmagefemmhfkaaaW.PrintMore Go.Proofs.Ytmagefemmhfkaaa.Q
set_option linter.unusedVariables false
set_option linter.unusedSimpArgs false

section
variable {x s m y : Int}
theorem near_j3 (h : stepS x s m = (y, true)) (hs : I64 s) : Ev (fun k => oculuslaw09_RoundNear.j3 k s m y false) true := by
  obtain ⟨ok, hy, hq, -⟩ := stepS_near h
  have h2 := stepS_again (y := y) (s := s) (m := m) ⟨ok.1, hy, ok.2.2⟩ hq
  refine Ev.step (fun k => by rw [oculuslaw09_RoundNear.j3]) (Ev.neg (by decide) ?_)
  refine Ev.bind (step_ev hy.i hs) ?_
  rw [h2]
  exact Ev.pos rfl (Ev.pos rfl (Ev.bind alive09 (Ev.now _)))
theorem near_j2 (h : stepS x s m = (y, true)) (hs : I64 s) : Ev (fun k => oculuslaw09_RoundNear.j2 k x s m y false) true := by
  obtain ⟨ok, hy, hq, a1, a2, a3, a4, a5, a6, a7, a8⟩ := stepS_near h
  have hx := ok.2.1
  unfold May at hx
  have hy' := hy
  unfold May at hy'
  have j3 := near_j3 h hs
  refine Ev.step (fun k => by rw [oculuslaw09_RoundNear.j2]) (Ev.neg (by decide) ?_)
  simp only [abs_f x hx.1 hx.2, abs_f y hy'.1 hy'.2, Option.bind_some]
  refine Ev.ite (fun h2 => Ev.neg (by omega) (Ev.neg (by omega) j3)) (fun h2 => ?_)
  refine Ev.ite (fun h3 => ?_) (fun _ => j3)
  rw [decide_eq_false (by omega)]
  exact j3
theorem near_j1 (h : stepS x s m = (y, true)) (hs : I64 s) {d : Int} (hd0 : 0 ≤ d) (hd : d < s) (hh : m = 1 → 2 * d ≤ s) : Ev (fun k => oculuslaw09_RoundNear.j1 k x s m y d) true := by
  obtain ⟨ok, hy, hq, a1, a2, a3, a4, a5, a6, a7, a8⟩ := stepS_near h
  have j2 := near_j2 h hs
  have hs1 := ok.1
  unfold I64 at hs
  refine Ev.step (fun k => by rw [oculuslaw09_RoundNear.j1]) ?_
  rw [u64i (x := s) (by omega) (by omega), u64i (x := s - d) (by omega) (by omega)]
  refine Ev.neg (by omega) ?_
  repeat' first | refine Ev.ite (fun _ => ?_) (fun _ => ?_)
  all_goals first
    | exact j2
    | (exfalso; omega)
    | (rw [decide_eq_false (by omega)]; exact j2)
end
theorem RoundNear : oculuslaw09_RoundNear.Pure := by
  intro x s m hwx hws hwm
  have hx := i64_of_wf hwx
  have hs := i64_of_wf hws
  refine Ev.rounds (g := fun k => oculuslaw09_RoundNear.f k x s m) (r := true) ?_
  refine Ev.congr (fun k => by rw [oculuslaw09_RoundNear.f]) (Ev.bind (step_ev hx hs) ?_)
  generalize hst : stepS x s m = p
  obtain ⟨y, ok⟩ := p
  cases ok with
  | false =>
    obtain rfl := stepS_false hst
    exact Ev.neg (by decide) (Ev.pos rfl (Ev.bind alive09 (Ev.now _)))
  | true =>
    obtain ⟨ok, hy, ⟨q, hq⟩, a1, a2, a3, a4, a5, a6, a7, a8⟩ := stepS_near hst
    have hs1 := ok.1
    have hx' := ok.2.1
    unfold May at hx'
    have hy' := hy
    unfold May at hy'
    refine Ev.pos rfl (Ev.neg (by omega) (Ev.neg (by omega) ?_))
    rw [show (y.tmod s != 0) = false by rw [hq, Int.mul_tmod_left]; rfl]
    refine Ev.step (fun k => by rw [oculuslaw09_RoundNear.j0]) (Ev.neg (by decide) ?_)
    simp only [abs_f x hx'.1 hx'.2, abs_f y hy'.1 hy'.2, Option.bind_some]
    refine Ev.ite (fun h => ?_) (fun h => ?_)
    · rw [u64i (x := _ - _) (by omega) (by omega)]
      exact near_j1 hst hs (by omega) (by omega) (by omega)
    · rw [u64i (x := _ - _) (by omega) (by omega)]
      exact near_j1 hst hs (by omega) (by omega) (by omega)
end Go.Proofs.Ytmagefemmhfkaaa.Pure
