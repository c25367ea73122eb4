/- Rounding to places. -/
import Derived.Test.YtcfhllbobapaiaaDoorFixAT
set_option linter.unusedVariables false
set_option linter.unusedSimpArgs false
set_option maxRecDepth 100000
namespace Go.Den.ET
open Go Go.Proofs
theorem emod_f {x st : Int} (h0 : 0 < st) : x = x / st * st + x % st ∧ 0 ≤ x % st ∧ x % st < st := by
  have h1 := Int.emod_add_mul_ediv x st
  refine ⟨?_, Int.emod_nonneg _ (by omega), Int.emod_lt_of_pos _ h0⟩
  rw [Int.mul_comm] at h1; omega
theorem div_may {x st : Int} (hx : May x) (h0 : 0 < st) : -9223372036854775808 < x / st ∧ x / st ≤ 9223372036854775807 := by
  unfold May at hx
  obtain ⟨h1, h2, h3⟩ := emod_f (x := x) h0
  have a1 : x / st ≤ x.natAbs := by
    have := Int.ediv_le_self st (show 0 ≤ (x.natAbs : Int) by omega)
    have h4 : x / st ≤ (x.natAbs : Int) / st := Int.ediv_le_ediv h0 (by omega)
    omega
  have a2 : -(x.natAbs : Int) ≤ x / st := by
    refine (Int.le_ediv_iff_mul_le h0).2 ?_
    have : (x.natAbs : Int) * 1 ≤ (x.natAbs : Int) * st := Int.mul_le_mul_of_nonneg_left (by omega) (by omega)
    rw [Int.neg_mul]; omega
  omega
theorem times_ev {q st : Int} (hq : May q) (h0 : 0 < st) (h1 : st ≤ 10000) : D 175 [.sc (.int .i64 q), .sc (.int .i64 st)] = some (pvGa (mulS q st)) :=
  (f175_eq 0 q st).trans (cb (rscl_ev hq h0 h1) rfl rfl)
theorem rstep_ev {x st : Int} (hx : May x) (h0 : 0 < st) (h1 : st ≤ 10000) : D 155 [.sc (.int .i64 x), .sc (.int .i64 st), .sc (.int .i64 1)] = some (pvGa (rnd x st)) := by
  have hm := hx
  unfold May at hm
  obtain ⟨e1, e2, e3⟩ := emod_f (x := x) h0
  obtain ⟨hq1, hq2⟩ := div_may hx h0
  rw [f155_eq 0]
  simp only [rmay8_ev hx.i, decide_eq_true hx, bs, shb, if_true, tb, bO]
  refine im (by simp; omega) (cb (down_ev hx h0 h1) rfl ?_)
  have hlow : IntKind.u64.wrap (IntKind.u64.wrap x - IntKind.u64.wrap (IntKind.u64.wrap (x / st) * IntKind.u64.wrap st)) = x % st := by
    have hs : IntKind.u64.wrap st = st := u64i (by omega) (by omega)
    rw [hs]
    have h3 : IntKind.u64.wrap (IntKind.u64.wrap (x / st) * st) = x / st * st % 18446744073709551616 := by
      rw [u64w, u64w, Int.mul_emod, Int.emod_emod, ← Int.mul_emod]
    rw [h3]
    simp only [u64w]
    omega
  have hhigh : IntKind.u64.wrap (IntKind.u64.wrap st - x % st) = st - x % st := by
    rw [u64i (x := st) (by omega) (by omega), u64i (by omega) (by omega)]
  dsimp +instances only [ti]
  rw [hlow, hhigh]
  unfold rnd
  by_cases hz : x % st = 0
  · rw [if_pos hz]
    exact ip (by simpa using hz) rfl
  · rw [if_neg hz]
    refine im (by simpa using hz) (ip (by decide) ?_)
    have key : ∀ up : Bool, f155.j0a 0 st (x / st) up 0 false = some (pvGa (mulS (if up = true then x / st + 1 else x / st) st)) := by
      intro up
      rw [f155.j0a_eq]
      cases up
      · refine im (by decide) ?_
        rw [f155.j1a_eq]
        exact cb (times_ev (by unfold May; omega) h0 h1) rfl rfl
      · refine ip rfl ?_
        have hlt : x / st < 9223372036854775807 := by
          by_cases h5 : st = 1
          · subst h5; omega
          · by_cases h6 : x / st = 9223372036854775807
            · rw [h6] at e1; omega
            · omega
        rw [w64 (by omega) (by omega), f155.j1a_eq]
        exact cb (times_ev (by unfold May; omega) h0 h1) rfl rfl
    simp only [bA, bO, bs, tb]
    refine (congrArg (fun u => f155.j0a 0 st (x / st) u 0 false) (?_ : _ = upR x st)).trans (key (upR x st))
    unfold upR
    congr 2
theorem step_ev {x st : Int} (hx : May x) (h0 : 0 < st) (h1 : st ≤ 10000) : D 154 [.sc (.int .i64 x), .sc (.int .i64 st), .sc (.int .i64 1)] = some (pvG (rnd x st)) := by
  have hm := hx
  unfold May at hm
  obtain ⟨e1, e2, e3⟩ := emod_f (x := x) h0
  obtain ⟨t1, t2, t3⟩ := tdm x h0
  obtain ⟨hq1, hq2⟩ := div_may hx h0
  have hst : May st := by unfold May; omega
  have hu : ∀ q r : Int, x = q * st + r → 0 ≤ r → r < st → x / st = q ∧ x % st = r := by
    intro q r h hr0 hr1
    rw [h, Int.add_comm]
    exact ⟨by rw [Int.add_mul_ediv_right _ _ (by omega), Int.ediv_eq_zero_of_lt hr0 hr1, Int.zero_add], by rw [Int.add_mul_emod_self_right, Int.emod_eq_of_lt hr0 hr1]⟩
  rw [f154_eq 0]
  simp only [may_ev hx.i, decide_eq_true hx, bs, shb, if_true, tb, bO]
  refine im (by simp; omega) (ip ⟨trivial, by omega⟩ ?_)
  -- the rest, by its sign
  have hrest : (0 ≤ x ∧ x.tmod st = x % st) ∨ (x < 0 ∧ x % st = 0 ∧ x.tmod st = 0) ∨ (x < 0 ∧ 0 < x % st ∧ x.tmod st = x % st - st) := by
    by_cases h : 0 ≤ x
    · exact .inl ⟨h, (Int.tmod_eq_emod_of_nonneg h)⟩
    · have h3 := t3 (by omega)
      by_cases hz : x.tmod st = 0
      · have := hu (x.tdiv st) 0 (by omega) (by omega) h0
        exact .inr (.inl ⟨by omega, this.2, hz⟩)
      · have := hu (x.tdiv st - 1) (x.tmod st + st) (by rw [Int.sub_mul]; omega) (by omega) (by omega)
        exact .inr (.inr ⟨by omega, by omega, by omega⟩)
  unfold rnd
  by_cases hz : x % st = 0
  · rw [if_pos hz]
    refine ip (by rcases hrest with ⟨_, h⟩ | ⟨_, _, h⟩ | ⟨_, h, _⟩ <;> simp <;> omega) rfl
  · rw [if_neg hz]
    refine im (by rcases hrest with ⟨_, h⟩ | ⟨_, h2, h⟩ | ⟨_, h2, h⟩ <;> simp <;> omega) ?_
    have hprod : ∀ q, (q + 1) * st = q * st + st := fun q => by rw [Int.add_mul, Int.one_mul]
    have mu : ∀ q : Int, mulS q st = if May q ∧ May (q * st) then (q * st, true) else (0, false) := by
      intro q
      unfold mulS
      by_cases h : May q ∧ May (q * st)
      · rw [if_pos h, if_pos ⟨h.1, hst, h.2⟩]
      · rw [if_neg h, if_neg fun hh => h ⟨hh.1, hh.2.2⟩]
    rcases hrest with ⟨hp, hr⟩ | ⟨_, h2, _⟩ | ⟨hp, h2, hr⟩
    · refine im (by rw [decide_eq_true_eq]; omega) ?_
      rw [hr, w64 (x := x - x % st) (by omega) (by omega), f154.j0a_eq]
      refine ip (by decide) ?_
      have hneg : IntKind.i64.wrap (0 - x % st) = -(x % st) := by rw [w64 (by omega) (by omega)]; omega
      have hmax : (if IntKind.i64.wrap (0 - x % st) > x % st then IntKind.i64.wrap (0 - x % st) else x % st) = x % st := by rw [hneg, if_neg (by omega)]
      have hxp : x > 0 := by
        by_cases h : x = 0
        · subst h; simp at hz
        · omega
      have hup : upR x st = !decide (x % st < st - x % st) := by
        unfold upR
        rw [decide_eq_true hxp, Bool.and_true, Bool.eq_iff_iff]
        simp only [Bool.or_eq_true, decide_eq_true_eq, Bool.not_eq_true', decide_eq_false_iff_not]
        omega
      have hc : decide ((if IntKind.i64.wrap (0 - x % st) > x % st then IntKind.i64.wrap (0 - x % st) else x % st) < IntKind.i64.wrap (st - (if IntKind.i64.wrap (0 - x % st) > x % st then IntKind.i64.wrap (0 - x % st) else x % st))) = decide (x % st < st - x % st) := by
        rw [decide_eq_decide, hmax, w64 (by omega) (by omega)]
      have elow : x - x % st = x / st * st := by omega
      by_cases hd : x % st < st - x % st
      · refine ip (by rw [hc]; exact decide_eq_true hd) ?_
        rw [hup, decide_eq_true hd, if_neg (by decide), mu, if_pos ⟨by unfold May; omega, by unfold May; omega⟩, elow]
        rfl
      · refine im (by rw [hc, decide_eq_true_eq]; exact hd) (cb (add_ev (by unfold I64; omega) hst.i) rfl ?_)
        rw [hup, decide_eq_false hd, if_pos (by decide), mu, hprod]
        show some (pvG (addS (x - x % st) st)) = _
        unfold addS
        rw [elow]
        by_cases h9 : May (x / st * st + st)
        · have h10 : May (x / st + 1) := by
            unfold May at h9 ⊢
            have : (x / st + 1) * 1 ≤ (x / st + 1) * st := Int.mul_le_mul_of_nonneg_left (by omega) (by
              have := Int.ediv_nonneg hp (by omega : 0 ≤ st); omega)
            rw [hprod] at this
            have := Int.ediv_nonneg hp (by omega : 0 ≤ st)
            omega
          rw [if_pos ⟨by unfold May; omega, hst, h9⟩, if_pos ⟨h10, h9⟩]
        · rw [if_neg fun hh => h9 hh.2.2, if_neg fun hh => h9 hh.2]
    · exact absurd h2 hz
    · refine ip (by rw [decide_eq_true_eq]; omega) ?_
      rw [hr, w64 (x := 0 - st) (by omega) (by omega), w64 (x := x - (x % st - st)) (by omega) (by omega), f154.j0a_eq]
      refine ip (by decide) ?_
      have hneg : IntKind.i64.wrap (0 - (x % st - st)) = st - x % st := by rw [w64 (by omega) (by omega)]; omega
      have hmax : (if IntKind.i64.wrap (0 - (x % st - st)) > x % st - st then IntKind.i64.wrap (0 - (x % st - st)) else x % st - st) = st - x % st := by rw [hneg, if_pos (by omega)]
      have hup : upR x st = decide (st - x % st < x % st) := by
        unfold upR
        rw [decide_eq_false (show ¬ x > 0 by omega), Bool.and_false, Bool.or_false]
      have hc : decide ((if IntKind.i64.wrap (0 - (x % st - st)) > x % st - st then IntKind.i64.wrap (0 - (x % st - st)) else x % st - st) < IntKind.i64.wrap (st - (if IntKind.i64.wrap (0 - (x % st - st)) > x % st - st then IntKind.i64.wrap (0 - (x % st - st)) else x % st - st))) = decide (st - x % st < x % st) := by
        rw [decide_eq_decide, hmax, w64 (by omega) (by omega)]
        omega
      have elow : x - (x % st - st) = (x / st + 1) * st := by rw [hprod]; omega
      have hqn : x / st < 0 := by
        by_cases h : x / st < 0
        · exact h
        · have := Int.mul_nonneg (show 0 ≤ x / st by omega) (show 0 ≤ st by omega)
          omega
      have hq1m : May (x / st + 1) := by unfold May; omega
      by_cases hd : st - x % st < x % st
      · refine ip (by rw [hc]; exact decide_eq_true hd) ?_
        rw [hup, decide_eq_true hd, if_pos rfl, mu, if_pos ⟨hq1m, by rw [← elow]; unfold May; omega⟩, elow]
        rfl
      · refine im (by rw [hc, decide_eq_true_eq]; exact hd) (cb (add_ev (by unfold I64; omega) (by unfold I64; omega)) rfl ?_)
        rw [hup, decide_eq_false hd, if_neg (by decide), mu]
        show some (pvG (addS (x - (x % st - st)) (0 - st))) = _
        have esum : x - (x % st - st) + (0 - st) = x / st * st := by omega
        unfold addS
        rw [esum]
        by_cases h9 : May (x / st * st)
        · rw [if_pos ⟨by unfold May; omega, by unfold May; omega, h9⟩, if_pos ⟨by unfold May; omega, h9⟩]
        · rw [if_neg fun hh => h9 hh.2.2, if_neg fun hh => h9 hh.2]
/-- The step of so many places. -/
def stp (p : Int) : Int := 10 ^ (4 - p).toNat
theorem stp_c {p : Int} (h0 : 0 ≤ p) (h1 : p ≤ 4) : 0 < stp p ∧ stp p ≤ 10000 := by
  have : p = 0 ∨ p = 1 ∨ p = 2 ∨ p = 3 ∨ p = 4 := by omega
  rcases this with rfl | rfl | rfl | rfl | rfl <;> decide
theorem places_ev {x p : Int} (hx : May x) (h0 : 0 ≤ p) (h1 : p ≤ 4) : D 111 [.sc (.int .i64 x), .sc (.int .i64 p), .sc (.int .i64 1)] = some (pvG (rnd x (stp p))) := by
  have hs := step_ev hx (stp_c h0 h1).1 (stp_c h0 h1).2
  rw [f111_eq 0]
  refine im (by rw [decide_eq_true_eq]; omega) ?_
  have : p = 0 ∨ p = 1 ∨ p = 2 ∨ p = 3 ∨ p = 4 := by omega
  have fin : ∀ st : Int, ∀ t : Int, D 154 [.sc (.int .i64 x), .sc (.int .i64 st), .sc (.int .i64 1)] = some (pvG (rnd x st)) → f111.l0a 0 x 1 st t t = some (pvG (rnd x st)) := by
    intro st t h
    rw [f111.l0a_eq]
    exact im (by simp) (cb h rfl rfl)
  have go : ∀ st t s : Int, decide (s < t) = true → f111.l0a 0 x 1 st t s = f111.l0a 0 x 1 (IntKind.i64.wrap (st * 10)) t (IntKind.i64.wrap (s + 1)) := by
    intro st t s h
    rw [f111.l0a_eq]
    exact ip h rfl
  rcases this with rfl | rfl | rfl | rfl | rfl
  · exact (go 1 4 0 rfl).trans ((go 10 4 1 rfl).trans ((go 100 4 2 rfl).trans ((go 1000 4 3 rfl).trans (fin 10000 4 hs))))
  · exact (go 1 3 0 rfl).trans ((go 10 3 1 rfl).trans ((go 100 3 2 rfl).trans (fin 1000 3 hs)))
  · exact (go 1 2 0 rfl).trans ((go 10 2 1 rfl).trans (fin 100 2 hs))
  · exact (go 1 1 0 rfl).trans (fin 10 1 hs)
  · exact fin 1 0 hs
theorem rplaces_ev {x p : Int} (hx : May x) (h0 : 0 ≤ p) (h1 : p ≤ 4) : D 112 [.sc (.int .i64 x), .sc (.int .i64 p), .sc (.int .i64 1)] = some (pvGa (rnd x (stp p))) := by
  have hs := rstep_ev hx (stp_c h0 h1).1 (stp_c h0 h1).2
  rw [f112_eq 0]
  refine im (by rw [decide_eq_true_eq]; omega) ?_
  have : p = 0 ∨ p = 1 ∨ p = 2 ∨ p = 3 ∨ p = 4 := by omega
  have fin : ∀ st : Int, D 155 [.sc (.int .i64 x), .sc (.int .i64 st), .sc (.int .i64 1)] = some (pvGa (rnd x st)) → f112.l0a 0 x 4 1 st 0 false = some (pvGa (rnd x st)) := by
    intro st h
    rw [f112.l0a_eq]
    exact im (by decide) (cb h rfl rfl)
  have go : ∀ st q : Int, decide (q < 4) = true → f112.l0a 0 x q 1 st 0 false = f112.l0a 0 x (IntKind.i64.wrap (q + 1)) 1 (IntKind.i64.wrap (st * 10)) 0 false := by
    intro st q h
    rw [f112.l0a_eq]
    exact ip h rfl
  rcases this with rfl | rfl | rfl | rfl | rfl
  · exact (go 1 0 rfl).trans ((go 10 1 rfl).trans ((go 100 2 rfl).trans ((go 1000 3 rfl).trans (fin 10000 hs))))
  · exact (go 1 1 rfl).trans ((go 10 2 rfl).trans ((go 100 3 rfl).trans (fin 1000 hs)))
  · exact (go 1 2 rfl).trans ((go 10 3 rfl).trans (fin 100 hs))
  · exact (go 1 3 rfl).trans (fin 10 hs)
  · exact fin 1 hs
end Go.Den.ET
