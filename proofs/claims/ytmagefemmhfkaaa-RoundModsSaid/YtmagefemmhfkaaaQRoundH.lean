/- Rests, quotients, even and odd numbers. -/
import Derived.Test.YtmagefemmhfkaaaQRoundG
namespace Go.Proofs.Ytmagefemmhfkaaa.Q
open Go Go.RowKit Go.Proofs.Ytmagefemmhfkaaa.PA Go.Proofs.YtmagefemmhfkaaaW.PrintWords Go.Proofs.YtmagefemmhfkaaaW.PrintLast Go.Proofs.YtmagefemmhfkaaaW.PrintMore
set_option linter.unusedVariables false
set_option linter.unusedSimpArgs false

theorem tmod_bound (a : Int) {b : Int} (hb : b ≠ 0) : ((a.tmod b).natAbs : Int) < b.natAbs := by
  rcases (by omega : b < 0 ∨ 0 < b) with h | h
  · have t := tdm a (m := -b) (by omega)
    rw [Int.tmod_neg] at t
    omega
  · have t := tdm a h
    omega
def modS (a b : Int) : Int × Bool :=
  if b ≠ 0 ∧ May a ∧ May b then (if a.tmod b ≠ 0 ∧ ¬ (a.tmod b < 0 ↔ b < 0) then (a.tmod b + b, true) else (a.tmod b, true)) else (0, false)
theorem modS_ok {a b : Int} (h : b ≠ 0 ∧ May a ∧ May b) : modS a b = if a.tmod b ≠ 0 ∧ ¬ (a.tmod b < 0 ↔ b < 0) then (a.tmod b + b, true) else (a.tmod b, true) := if_pos h
theorem mod_ev {a b : Int} (ha : I64 a) (hb : I64 b) : Ev (fun k => round_Mod.f k a b) (modS a b) := by
  have no : ¬ (b ≠ 0 ∧ May a ∧ May b) → Ev (fun k => round_Mod.j0 k a b true) (modS a b) := fun h => by
    rw [modS, if_neg h]; exact Ev.step (fun k => by rw [round_Mod.j0]) (Ev.pos rfl (Ev.now _))
  refine Ev.congr (fun k => by rw [round_Mod.f]) ?_
  refine Ev.ite (fun h => no (fun hh => hh.1 h)) (fun h0 => ?_)
  refine Ev.some_bind (may_f ha.1 ha.2) ?_
  refine Ev.ite (fun h => ?_) (fun h => no (fun hh => h (decide_eq_true hh.2.1)))
  have h1 := of_decide_eq_true h
  refine Ev.some_bind (may_f hb.1 hb.2) ?_
  by_cases h2 : May b
  · rw [decide_eq_true h2, Bool.not_true]
    have m1 := h1; have m2 := h2
    unfold May at m1 m2
    have tb := tmod_bound a h0
    refine Ev.step (fun k => by rw [round_Mod.j0]) (Ev.neg (by decide) (Ev.neg h0 ?_))
    rw [modS_ok ⟨h0, h1, h2⟩]
    refine Ev.ite (fun h => ?_) (fun h => ?_)
    · rw [if_neg (fun hh => hh.1 h)]; exact Ev.now _
    · refine Ev.ite (fun h3 => ?_) (fun h3 => ?_)
      · have h4 : ¬ (a.tmod b < 0 ↔ b < 0) := fun h5 => by simp [h5] at h3
        rw [if_pos ⟨h, h4⟩, w64 (by omega) (by omega)]; exact Ev.now _
      · have h4 : (a.tmod b < 0 ↔ b < 0) := by
          by_cases h5 : a.tmod b < 0 <;> by_cases h6 : b < 0 <;> simp [h5, h6] at h3 ⊢
        rw [if_neg (fun hh => hh.2 h4)]; exact Ev.now _
  · rw [decide_eq_false h2, Bool.not_false]
    exact no (fun hh => h2 hh.2.2)
theorem rmod_ev {a b : Int} (ha : I64 a) (hb : I64 b) : Ev (fun k => oculusref09_Mod.f k a b) (modS a b) := by
  have no : ¬ (b ≠ 0 ∧ May a ∧ May b) → Ev (fun k => oculusref09_Mod.j0 k a b true) (modS a b) := fun h => by
    rw [modS, if_neg h]; exact Ev.step (fun k => by rw [oculusref09_Mod.j0]) (Ev.pos rfl (Ev.now _))
  refine Ev.congr (fun k => by rw [oculusref09_Mod.f]) ?_
  refine Ev.ite (fun h => no (fun hh => hh.1 h)) (fun h0 => ?_)
  refine Ev.some_bind (rmay_f ha.1 ha.2) ?_
  refine Ev.ite (fun h => ?_) (fun h => no (fun hh => h (decide_eq_true hh.2.1)))
  have h1 := of_decide_eq_true h
  refine Ev.some_bind (rmay_f hb.1 hb.2) ?_
  by_cases h2 : May b
  · rw [decide_eq_true h2, Bool.not_true]
    have m1 := h1; have m2 := h2
    unfold May at m1 m2
    have tb := tmod_bound a h0
    refine Ev.step (fun k => by rw [oculusref09_Mod.j0]) (Ev.neg (by decide) (Ev.neg h0 ?_))
    rw [modS_ok ⟨h0, h1, h2⟩]
    have yes : a.tmod b ≠ 0 ∧ ¬ (a.tmod b < 0 ↔ b < 0) → Ev (fun k => some (wrap64 (a.tmod b + b), true)) (if a.tmod b ≠ 0 ∧ ¬ (a.tmod b < 0 ↔ b < 0) then (a.tmod b + b, true) else (a.tmod b, true)) := fun h => by rw [if_pos h, w64 (by omega) (by omega)]; exact Ev.now _
    have nay : ¬ (a.tmod b ≠ 0 ∧ ¬ (a.tmod b < 0 ↔ b < 0)) → Ev (fun k => some (a.tmod b, true)) (if a.tmod b ≠ 0 ∧ ¬ (a.tmod b < 0 ↔ b < 0) then (a.tmod b + b, true) else (a.tmod b, true)) := fun h => by rw [if_neg h]; exact Ev.now _
    repeat' first | refine Ev.ite (fun _ => ?_) (fun _ => ?_)
    all_goals first
      | (exfalso; omega)
      | (refine yes ?_; omega)
      | (refine nay ?_; omega)
  · rw [decide_eq_false h2, Bool.not_false]
    exact no (fun hh => h2 hh.2.2)

def quotS (a b : Int) : Int × Bool := if b ≠ 0 ∧ May a ∧ May b then mulS (a.tdiv b) 10000 else (0, false)
theorem of_ev {a : Int} (ha : I64 a) : Ev (fun k => dec_Of.f k a) (mulS a 10000) := by
  have h := scaled_ev ha.1 ha.2 (b := 10000) (by decide) (by decide) (c := 1) (by decide) (by decide)
  rw [scaledP_one] at h
  exact Ev.congr (fun k => by rw [dec_Of.f]) (Ev.bind h (Ev.now _))
theorem tdiv_i {a b : Int} (ha : I64 a) (h : May a) : I64 (a.tdiv b) := by
  have := Int.natAbs_tdiv_le_natAbs a b
  unfold May at h
  unfold I64
  omega
theorem quot_ev {a b : Int} (ha : I64 a) (hb : I64 b) : Ev (fun k => round_Quot.f k a b) (quotS a b) := by
  have no : ¬ (b ≠ 0 ∧ May a ∧ May b) → Ev (fun k => some (0, false)) (quotS a b) := fun h => by
    rw [quotS, if_neg h]; exact Ev.now _
  refine Ev.congr (fun k => by rw [round_Quot.f]) ?_
  refine Ev.ite (fun h => no (fun hh => hh.1 h)) (fun h0 => ?_)
  refine Ev.some_bind (may_f ha.1 ha.2) ?_
  refine Ev.ite (fun h => ?_) (fun h => no (fun hh => h (decide_eq_true hh.2.1)))
  refine Ev.some_bind (may_f hb.1 hb.2) ?_
  refine Ev.ite (fun h2 => ?_) (fun h2 => no (fun hh => h2 (decide_eq_true hh.2.2)))
  have hi := tdiv_i (b := b) ha (of_decide_eq_true h)
  rw [show quotS a b = mulS (a.tdiv b) 10000 from if_pos ⟨h0, of_decide_eq_true h, of_decide_eq_true h2⟩, w64 hi.1 hi.2]
  exact Ev.bind (of_ev hi) (Ev.now _)
theorem rquot_ev {a b : Int} (ha : I64 a) (hb : I64 b) : Ev (fun k => oculusref09_Quot.f k a b) (quotS a b) := by
  have no : ¬ (b ≠ 0 ∧ May a ∧ May b) → Ev (fun k => some (0, false)) (quotS a b) := fun h => by
    rw [quotS, if_neg h]; exact Ev.now _
  refine Ev.congr (fun k => by rw [oculusref09_Quot.f]) ?_
  refine Ev.ite (fun h => no (fun hh => hh.1 h)) (fun h0 => ?_)
  refine Ev.some_bind (rmay_f ha.1 ha.2) ?_
  refine Ev.ite (fun h => ?_) (fun h => no (fun hh => h (decide_eq_true hh.2.1)))
  refine Ev.some_bind (rmay_f hb.1 hb.2) ?_
  refine Ev.ite (fun h2 => ?_) (fun h2 => no (fun hh => h2 (decide_eq_true hh.2.2)))
  have hi := tdiv_i (b := b) ha (of_decide_eq_true h)
  rw [show quotS a b = mulS (a.tdiv b) 10000 from if_pos ⟨h0, of_decide_eq_true h, of_decide_eq_true h2⟩, w64 hi.1 hi.2]
  exact Ev.bind (times9_ev hi (by unfold I64; omega)) (Ev.now _)
theorem even_ev {a : Int} (ha : I64 a) : Ev (fun k => round_Even.f k a) (stepS a 20000 3) :=
  Ev.congr (fun k => by rw [round_Even.f]) (Ev.bind (step_ev ha (by unfold I64; omega)) (Ev.now _))

/-- The odd number of n from 0 on that is not below. -/
def oddN (n : Int) : Int := if (2 * (n / 20000) + 1) * 10000 < n then (2 * (n / 20000) + 3) * 10000 else (2 * (n / 20000) + 1) * 10000
def oddS (x : Int) : Int × Bool :=
  if May x then (if oddN x.natAbs ≤ 9223372036854775807 then (if x < 0 then -oddN x.natAbs else oddN x.natAbs, true) else (0, false)) else (0, false)
theorem up_even {y : Int} (hy : May y) : stepS y 20000 3 = if y.tmod 20000 = 0 then (y, true) else addS (y - y.tmod 20000) (if y < 0 then -20000 else 20000) := by
  rw [stepS, if_pos ⟨by decide, hy, by decide, by decide⟩]
  by_cases h : y.tmod 20000 = 0
  · rw [if_pos h, if_pos h]
  · rw [if_neg h, if_neg h, if_pos (.inr (.inl rfl))]
theorem odd_j0 {x : Int} (hx : May x) : Ev (fun k => round_Odd.j0 k x (if x < 0 then -10000 else 10000)) (oddS x) := by
  have m1 := hx
  unfold May at m1
  have hone : I64 (if x < 0 then -10000 else 10000) := by unfold I64; split <;> decide
  have hs : subS x (if x < 0 then -10000 else 10000) = (x - (if x < 0 then -10000 else 10000), true) := by
    rw [subS, if_pos ⟨hx, by unfold May; split <;> decide, by unfold May; split <;> omega⟩]
  refine Ev.step (fun k => by rw [round_Odd.j0]) (Ev.some_bind (sub_f hx.i hone) ?_)
  rw [hs]
  refine Ev.pos rfl (Ev.some_bind (sign_f _) (Ev.some_bind (sign_f _) ?_))
  rw [show oddS x = (if oddN x.natAbs ≤ 9223372036854775807 then (if x < 0 then -oddN x.natAbs else oddN x.natAbs, true) else (0, false)) from if_pos hx]
  have hy : May (x - (if x < 0 then -10000 else 10000)) := by unfold May; split <;> omega
  have t := tdm (x - (if x < 0 then -10000 else 10000)) (m := 20000) (by decide)
  have he := even_ev hy.i
  rw [up_even hy] at he
  by_cases hn : x < 0
  · simp only [if_pos hn] at *
    by_cases hsm : x - -10000 > 0
    · refine Ev.pos (by rw [if_neg (by omega), if_pos hsm]; simp [wrap64]) ?_
      have e : oddN x.natAbs = 10000 := by unfold oddN; omega
      rw [e, if_pos (by decide)]
      exact Ev.now _
    · refine Ev.neg (by
        by_cases h0 : x - -10000 < 0
        · rw [if_pos h0]; simp [wrap64]
        · rw [if_neg h0, if_neg hsm]; simp [wrap64]) ?_
      refine Ev.bind he ?_
      by_cases hr : (x - -10000).tmod 20000 = 0
      · rw [if_pos hr]
        refine Ev.pos rfl (Ev.some_bind (add_f hy.i hone) ?_)
        have e : oddN x.natAbs = -(x - -10000 + -10000) := by unfold oddN; omega
        rw [e, addS_yes ⟨hy, by decide, by unfold May; omega⟩, if_pos (by omega), Int.neg_neg]
        exact Ev.now _
      · rw [if_neg hr]
        by_cases hz : x - -10000 < 0
        · rw [if_pos hz]
          by_cases hf : May (x - -10000 - (x - -10000).tmod 20000 + -20000)
          · have hf' := hf
            unfold May at hf'
            rw [addS_yes ⟨by unfold May; omega, by decide, hf⟩]
            refine Ev.pos rfl (Ev.some_bind (add_f hf.i hone) ?_)
            have e : oddN x.natAbs = -(x - -10000 - (x - -10000).tmod 20000 + -20000 + -10000) := by unfold oddN; omega
            rw [e]
            by_cases hg : May (x - -10000 - (x - -10000).tmod 20000 + -20000 + -10000)
            · have hg' := hg
              unfold May at hg'
              rw [addS_yes ⟨hf, by decide, hg⟩, if_pos (by omega), Int.neg_neg]; exact Ev.now _
            · have hg' := hg
              unfold May at hg'
              rw [addS_no hg, if_neg (by omega)]; exact Ev.now _
          · have hf' := hf
            unfold May at hf'
            rw [addS_no hf]
            have e : oddN x.natAbs = -(x - -10000 - (x - -10000).tmod 20000 + -20000 + -10000) := by unfold oddN; omega
            rw [show (if oddN x.natAbs ≤ 9223372036854775807 then (-oddN x.natAbs, true) else (0, false)) = (0, false) from if_neg (by rw [e]; omega)]
            exact Ev.neg (by decide) (Ev.now _)
        · exfalso; omega
  · simp only [if_neg hn] at *
    by_cases hsm : x - 10000 < 0
    · refine Ev.pos (by rw [if_pos hsm]; simp [wrap64]) ?_
      have e : oddN x.natAbs = 10000 := by unfold oddN; omega
      rw [e, if_pos (by decide)]
      exact Ev.now _
    · refine Ev.neg (by
        by_cases h0 : x - 10000 > 0
        · rw [if_neg hsm, if_pos h0]; simp [wrap64]
        · rw [if_neg hsm, if_neg h0]; simp [wrap64]) ?_
      refine Ev.bind he ?_
      by_cases hr : (x - 10000).tmod 20000 = 0
      · rw [if_pos hr]
        refine Ev.pos rfl (Ev.some_bind (add_f hy.i hone) ?_)
        have e : oddN x.natAbs = x - 10000 + 10000 := by unfold oddN; omega
        rw [e, addS_yes ⟨hy, by decide, by unfold May; omega⟩, if_pos (by omega)]
        exact Ev.now _
      · rw [if_neg hr]
        rw [if_neg hsm]
        by_cases hf : May (x - 10000 - (x - 10000).tmod 20000 + 20000)
        · have hf' := hf
          unfold May at hf'
          rw [addS_yes ⟨by unfold May; omega, by decide, hf⟩]
          refine Ev.pos rfl (Ev.some_bind (add_f hf.i hone) ?_)
          have e : oddN x.natAbs = x - 10000 - (x - 10000).tmod 20000 + 20000 + 10000 := by unfold oddN; omega
          rw [e]
          by_cases hg : May (x - 10000 - (x - 10000).tmod 20000 + 20000 + 10000)
          · have hg' := hg
            unfold May at hg'
            rw [addS_yes ⟨hf, by decide, hg⟩, if_pos (by omega)]; exact Ev.now _
          · have hg' := hg
            unfold May at hg'
            rw [addS_no hg, if_neg (by omega)]; exact Ev.now _
        · have hf' := hf
          unfold May at hf'
          rw [addS_no hf]
          have e : oddN x.natAbs = x - 10000 - (x - 10000).tmod 20000 + 20000 + 10000 := by unfold oddN; omega
          rw [show (if oddN x.natAbs ≤ 9223372036854775807 then (oddN x.natAbs, true) else (0, false)) = (0, false) from if_neg (by rw [e]; omega)]
          exact Ev.neg (by decide) (Ev.now _)
theorem odd_ev {x : Int} (hx : I64 x) : Ev (fun k => round_Odd.f k x) (oddS x) := by
  have key : Ev (fun k => round_Odd.j0 k x (if x < 0 then -10000 else 10000)) (oddS x) := by
    by_cases h : May x
    · exact odd_j0 h
    · rw [oddS, if_neg h]
      have hone : I64 (if x < 0 then -10000 else 10000) := by unfold I64; split <;> decide
      refine Ev.step (fun k => by rw [round_Odd.j0]) (Ev.some_bind (sub_f hx hone) ?_)
      rw [subS, if_neg (fun hh => h hh.1)]
      exact Ev.neg (by decide) (Ev.now _)
  refine Ev.congr (fun k => by rw [round_Odd.f]) ?_
  refine Ev.ite (fun h => ?_) (fun h => ?_)
  · rw [if_pos h] at key; exact key
  · rw [if_neg h] at key; exact key
theorem rodd_ev {x : Int} (hx : I64 x) : Ev (fun k => oculusref09_Odd.f k x) (oddS x) := by
  refine Ev.congr (fun k => by rw [oculusref09_Odd.f]) (Ev.some_bind (rmay_f hx.1 hx.2) ?_)
  refine Ev.ite (fun h => ?_) (fun h => ?_)
  · have hm := of_decide_eq_true h
    have m1 := hm
    unfold May at m1
    refine Ev.some_bind (abs_f x m1.1 m1.2) ?_
    have hn : wrap64 (x.natAbs : Int) = x.natAbs := w64 (by omega) (by omega)
    rw [hn, Int.tdiv_eq_ediv_of_nonneg (by omega), w64 (x := (x.natAbs : Int) / 20000) (by omega) (by omega), w64 (x := 2 * ((x.natAbs : Int) / 20000)) (by omega) (by omega), w64 (x := 2 * ((x.natAbs : Int) / 20000) + 1) (by omega) (by omega)]
    have h1 := rscaled_ev (a := 2 * ((x.natAbs : Int) / 20000) + 1) (by omega) (by omega) (b := 10000) (by decide) (by decide) (c := 1) (by decide) (by decide)
    have h3 := rscaled_ev (a := 2 * ((x.natAbs : Int) / 20000) + 3) (by omega) (by omega) (b := 10000) (by decide) (by decide) (c := 1) (by decide) (by decide)
    rw [scaledR_one] at h1 h3
    refine Ev.bind h1 ?_
    rw [show oddS x = (if oddN x.natAbs ≤ 9223372036854775807 then (if x < 0 then -oddN x.natAbs else oddN x.natAbs, true) else (0, false)) from if_pos hm]
    by_cases hf : (2 * ((x.natAbs : Int) / 20000) + 1) * 10000 ≤ 9223372036854775807
    · rw [mulS_yes ⟨by unfold May; omega, by decide, by unfold May; omega⟩]
      refine Ev.pos rfl ?_
      by_cases hl : (2 * ((x.natAbs : Int) / 20000) + 1) * 10000 < x.natAbs
      · rw [decide_eq_true hl]
        have e : oddN x.natAbs = (2 * ((x.natAbs : Int) / 20000) + 3) * 10000 := if_pos hl
        rw [e]
        refine Ev.step (fun k => by rw [oculusref09_Odd.j0]) (Ev.pos rfl ?_)
        rw [w64 (x := 2 * ((x.natAbs : Int) / 20000)) (by omega) (by omega), w64 (x := 2 * ((x.natAbs : Int) / 20000) + 3) (by omega) (by omega)]
        refine Ev.bind h3 ?_
        by_cases hg : (2 * ((x.natAbs : Int) / 20000) + 3) * 10000 ≤ 9223372036854775807
        · rw [mulS_yes ⟨by unfold May; omega, by decide, by unfold May; omega⟩, if_pos hg]
          refine Ev.ite (fun h => ?_) (fun h => ?_)
          · rw [if_pos h, w64 (by omega) (by omega)]; exact Ev.now _
          · rw [if_neg h]; exact Ev.now _
        · rw [mulS_no (fun hh => hg (by unfold May at hh; omega)), if_neg hg]
          refine Ev.ite (fun h => ?_) (fun h => ?_)
          · exact ⟨0, fun _ _ => by simp [wrap64]⟩
          · exact Ev.now _
      · rw [decide_eq_false hl]
        have e : oddN x.natAbs = (2 * ((x.natAbs : Int) / 20000) + 1) * 10000 := if_neg hl
        rw [e, if_pos hf]
        refine Ev.step (fun k => by rw [oculusref09_Odd.j0]) (Ev.neg (by decide) ?_)
        refine Ev.ite (fun h => ?_) (fun h => ?_)
        · rw [if_pos h, w64 (by omega) (by omega)]; exact Ev.now _
        · rw [if_neg h]; exact Ev.now _
    · rw [mulS_no (fun hh => hf (by unfold May at hh; omega)), show (if oddN x.natAbs ≤ 9223372036854775807 then (if x < 0 then -oddN x.natAbs else oddN x.natAbs, true) else (0, false)) = (0, false) from if_neg (by unfold oddN; split <;> omega)]
      refine Ev.neg (by decide) ?_
      refine Ev.step (fun k => by rw [oculusref09_Odd.j0]) (Ev.neg (by decide) ?_)
      refine Ev.ite (fun h => ?_) (fun h => ?_)
      · exact ⟨0, fun _ _ => by simp [wrap64]⟩
      · exact Ev.now _
  · rw [oddS, if_neg (fun hh => h (decide_eq_true hh))]
    exact Ev.now _
end Go.Proofs.Ytmagefemmhfkaaa.Q
