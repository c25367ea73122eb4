/- What round.Step answers. -/
import Derived.Test.YtmagefemmhfkaaaQAddF
import Derived.Test.YtmagefemmhfkaaaPBx10
import Derived.Test.YtmagefemmhfkaaaPBx12
namespace Go.Proofs.Ytmagefemmhfkaaa.Q
open Go Go.RowKit Go.Proofs.Ytmagefemmhfkaaa.PA Go.Proofs.YtmagefemmhfkaaaW.PrintWords Go.Proofs.YtmagefemmhfkaaaW.PrintLast Go.Proofs.YtmagefemmhfkaaaW.PrintMore
set_option linter.unusedVariables false
set_option linter.unusedSimpArgs false

/-- Does the mode go away from 0? -/
def Away (x s m : Int) : Prop := (m = 1 ∧ s ≤ 2 * ((x.tmod s).natAbs : Int)) ∨ m = 3 ∨ (m = 4 ∧ x < 0) ∨ (m = 5 ∧ x > 0)
instance (x s m : Int) : Decidable (Away x s m) := by unfold Away; infer_instance
def StepOk (x s m : Int) : Prop := 0 < s ∧ May x ∧ 1 ≤ m ∧ m ≤ 5
instance (x s m : Int) : Decidable (StepOk x s m) := by unfold StepOk; infer_instance
def stepS (x s m : Int) : Int × Bool :=
  if StepOk x s m then (if x.tmod s = 0 then (x, true) else if Away x s m then addS (x - x.tmod s) (if x < 0 then -s else s) else (x - x.tmod s, true)) else (0, false)

theorem step_j1 {x s m : Int} (hs : 0 < s) (hs1 : s ≤ 9223372036854775807) (hx : May x) (hm : 1 ≤ m) (hm' : m ≤ 5) (hr : x.tmod s ≠ 0) :
    Ev (fun k => round_Step.j1 k x s m (x.tmod s) (x - x.tmod s) (if x < 0 then -s else s)) (if Away x s m then addS (x - x.tmod s) (if x < 0 then -s else s) else (x - x.tmod s, true)) := by
  have t := tdm x hs
  have mx_ := hx
  unfold May at mx_
  have e : mx (x.tmod s) (wrap64 (-(x.tmod s))) = ((x.tmod s).natAbs : Int) := by rw [w64 (by omega) (by omega)]; unfold mx; omega
  have hl : I64 (x - x.tmod s) := by unfold I64; omega
  have hw : I64 (if x < 0 then -s else s) := by unfold I64; split <;> omega
  have yes : Away x s m → Ev (fun k => (dec_Add.f (x - x.tmod s) (if x < 0 then -s else s)).bind fun b => some (b.1, b.2)) (if Away x s m then addS (x - x.tmod s) (if x < 0 then -s else s) else (x - x.tmod s, true)) := fun h => by
    rw [if_pos h]; exact Ev.some_bind (add_f hl hw) (Ev.now _)
  have no : ¬ Away x s m → Ev (fun k => some (x - x.tmod s, true)) (if Away x s m then addS (x - x.tmod s) (if x < 0 then -s else s) else (x - x.tmod s, true)) := fun h => by
    rw [if_neg h]; exact Ev.now _
  refine Ev.step (fun k => by rw [round_Step.j1]) ?_
  rw [e, w64 (x := s - ((x.tmod s).natAbs : Int)) (by omega) (by omega)]
  repeat' first | refine Ev.ite (fun _ => ?_) (fun _ => ?_)
  all_goals first
    | (refine yes ?_; unfold Away; omega)
    | (refine no ?_; unfold Away; omega)

theorem step_ev {x s m : Int} (hx : I64 x) (hs : I64 s) : Ev (fun k => round_Step.f k x s m) (stepS x s m) := by
  have no : ¬ StepOk x s m → Ev (fun k => round_Step.j0 k x s m true) (stepS x s m) := fun h => by
    rw [stepS, if_neg h]; exact Ev.step (fun k => by rw [round_Step.j0]) (Ev.pos rfl (Ev.now _))
  unfold I64 at hx hs
  refine Ev.congr (fun k => by rw [round_Step.f]) ?_
  refine Ev.ite (fun h => no (fun hh => by unfold StepOk at hh; omega)) (fun h1 => ?_)
  refine Ev.some_bind (may_f hx.1 hx.2) ?_
  refine Ev.ite (fun h => ?_) (fun h => no (fun hh => h (decide_eq_true hh.2.1)))
  have hm := of_decide_eq_true h
  refine Ev.ite (fun h => no (fun hh => by unfold StepOk at hh; omega)) (fun h2 => ?_)
  by_cases h3 : m > 5
  · rw [decide_eq_true h3]; exact no (fun hh => by unfold StepOk at hh; omega)
  · rw [decide_eq_false h3]
    have ok : StepOk x s m := ⟨by omega, hm, by omega, by omega⟩
    have t := tdm x (m := s) (by omega)
    rw [stepS, if_pos ok]
    refine Ev.step (fun k => by rw [round_Step.j0]) (Ev.neg (by decide) (Ev.neg (by omega) ?_))
    refine Ev.ite (fun h => ?_) (fun h => ?_)
    · rw [if_pos h]; exact Ev.now _
    · rw [if_neg h]
      have j := step_j1 (x := x) (s := s) (m := m) (by omega) (by omega) hm (by omega) (by omega) h
      unfold May at hm
      rw [w64 (x := x - x.tmod s) (by omega) (by omega), w64 (x := -s) (by omega) (by omega)]
      refine Ev.ite (fun hn => ?_) (fun hn => ?_)
      · rw [if_pos hn] at j; rw [if_pos hn]; exact j
      · rw [if_neg hn] at j; rw [if_neg hn]; exact j

/-- What is rounded, as multiples: y is a multiple of s, less than s away, on the mode's side. -/
theorem stepS_near {x s m y : Int} (h : stepS x s m = (y, true)) : StepOk x s m ∧ May y ∧ (∃ q, y = q * s) ∧ (0 ≤ x → 0 ≤ y) ∧ (x ≤ 0 → y ≤ 0)
    ∧ ((y.natAbs : Int) - x.natAbs < s ∧ (x.natAbs : Int) - y.natAbs < s) ∧ (m = 1 → 2 * ((y.natAbs : Int) - x.natAbs) ≤ s ∧ 2 * ((x.natAbs : Int) - y.natAbs) ≤ s)
    ∧ (m = 4 → y ≤ x) ∧ (m = 5 → x ≤ y) ∧ (m = 2 → y.natAbs ≤ x.natAbs) ∧ (m = 3 → x.natAbs ≤ y.natAbs) := by
  unfold stepS at h
  by_cases ok : StepOk x s m
  · rw [if_pos ok] at h
    obtain ⟨hs, hx, h1, h5⟩ := id ok
    have t := tdm x hs
    have t2 := tdlow x hs
    have mx_ := hx
    unfold May at mx_
    by_cases hr : x.tmod s = 0
    · rw [if_pos hr] at h
      obtain rfl := (Prod.mk.inj h).1
      exact ⟨ok, hx, ⟨x.tdiv s, by omega⟩, by omega, by omega, by omega, by omega, by omega, by omega, by omega, by omega⟩
    · rw [if_neg hr] at h
      by_cases ha : Away x s m
      · rw [if_pos ha] at h
        unfold Away at ha
        by_cases hn : x < 0
        · rw [if_pos hn] at h
          unfold addS at h
          by_cases hy : May (x - x.tmod s) ∧ May (-s) ∧ May (x - x.tmod s + -s)
          · rw [if_pos hy] at h
            obtain rfl := (Prod.mk.inj h).1
            exact ⟨ok, hy.2.2, ⟨x.tdiv s - 1, by rw [Int.sub_mul, Int.one_mul]; omega⟩, by omega, by omega, by omega, by omega, by omega, by omega, by omega, by omega⟩
          · rw [if_neg hy] at h
            exact absurd (Prod.mk.inj h).2 (by decide)
        · rw [if_neg hn] at h
          unfold addS at h
          by_cases hy : May (x - x.tmod s) ∧ May s ∧ May (x - x.tmod s + s)
          · rw [if_pos hy] at h
            obtain rfl := (Prod.mk.inj h).1
            exact ⟨ok, hy.2.2, ⟨x.tdiv s + 1, by rw [Int.add_mul, Int.one_mul]; omega⟩, by omega, by omega, by omega, by omega, by omega, by omega, by omega, by omega⟩
          · rw [if_neg hy] at h
            exact absurd (Prod.mk.inj h).2 (by decide)
      · rw [if_neg ha] at h
        obtain rfl := (Prod.mk.inj h).1
        unfold Away at ha
        refine ⟨ok, by unfold May; omega, ⟨x.tdiv s, by omega⟩, by omega, by omega, by omega, by omega, by omega, by omega, by omega, by omega⟩
  · rw [if_neg ok] at h
    exact absurd (Prod.mk.inj h).2 (by decide)
theorem stepS_false {x s m y : Int} (h : stepS x s m = (y, false)) : y = 0 := by
  unfold stepS addS at h
  repeat' split at h
  all_goals first
    | exact (Prod.mk.inj h).1.symm
    | exact absurd (Prod.mk.inj h).2 (by decide)
theorem stepS_again {y s m : Int} (ok : 0 < s ∧ May y ∧ 1 ≤ m ∧ m ≤ 5) (hq : ∃ q, y = q * s) : stepS y s m = (y, true) := by
  obtain ⟨q, rfl⟩ := hq
  rw [stepS, if_pos (show StepOk (q * s) s m from ok), if_pos (Int.mul_tmod_left ..)]
theorem alive09 : Ev (fun k => oculuslaw09_alive.f k) true := Ev.of (fun k => oculuslaw09_alive.mono k) (k := 300) (by kernel_rfl)
end Go.Proofs.Ytmagefemmhfkaaa.Q
