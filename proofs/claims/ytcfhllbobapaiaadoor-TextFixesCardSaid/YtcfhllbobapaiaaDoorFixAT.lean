/- The reference's product by a small number; rounding to places. -/
import Derived.Test.YtcfhllbobapaiaaDoorFoldFT
set_option linter.unusedVariables false
set_option linter.unusedSimpArgs false
set_option maxRecDepth 100000
namespace Go.Den.ET
open Go Go.Proofs
theorem small_mul {a b : Int} (h0 : 0 ≤ a) (h1 : a ≤ 4294967295) (b0 : 0 ≤ b) (b1 : b ≤ 10000) : 0 ≤ a * b ∧ a * b ≤ 42949672950000 := by
  refine ⟨Int.mul_nonneg h0 b0, ?_⟩
  have := Int.mul_le_mul h1 b1 b0 (by decide : (0 : Int) ≤ 4294967295)
  exact this
theorem timesS_ev {a b : Int} (h0 : 0 ≤ a) (h1 : a < 18446744073709551616) (b0 : 0 ≤ b) (b1 : b ≤ 10000) : D 146 [.sc (.int .u64 a), .sc (.int .u64 b)] = some (.agg [.sc (.int .u64 (a * b / 18446744073709551616)), .sc (.int .u64 (a * b % 18446744073709551616))]) := by
  rw [f146_eq 0]
  have e1 : b.tdiv 4294967296 = 0 := by rw [Int.tdiv_eq_ediv_of_nonneg b0]; omega
  have e2 : b.tmod 4294967296 = b := by rw [Int.tmod_eq_emod_of_nonneg b0]; omega
  have e3 : a.tdiv 4294967296 = a / 4294967296 := Int.tdiv_eq_ediv_of_nonneg h0
  have e4 : a.tmod 4294967296 = a % 4294967296 := Int.tmod_eq_emod_of_nonneg h0
  have k0 : IntKind.u64.wrap 0 = 0 := rfl
  have m1 := small_mul (a := a / 4294967296) (by omega) (by omega) b0 b1
  have m2 := small_mul (a := a % 4294967296) (by omega) (by omega) b0 b1
  have hp : a * b = a / 4294967296 * b * 4294967296 + a % 4294967296 * b := by
    have : a = a / 4294967296 * 4294967296 + a % 4294967296 := by omega
    conv => lhs; rw [this, Int.add_mul, Int.mul_right_comm]
  rw [hp]
  rw [e1, e2, e3, e4, k0, Int.mul_zero, Int.mul_zero, k0, Int.zero_add, Int.zero_add]
  rw [u64i (x := a / 4294967296) (by omega) (by omega)]
  generalize hx : a / 4294967296 * b = X at *
  generalize hy : a % 4294967296 * b = Y at *
  rw [u64i (x := X) (by omega) (by omega), u64i (x := Y) (by omega) (by omega)]
  have d1 : Y.tdiv 4294967296 = Y / 4294967296 := Int.tdiv_eq_ediv_of_nonneg m2.1
  have d2 : Y.tmod 4294967296 = Y % 4294967296 := Int.tmod_eq_emod_of_nonneg m2.1
  rw [d1, d2, u64i (x := Y / 4294967296) (by omega) (by omega), u64i (x := X + Y / 4294967296) (by omega) (by omega)]
  have d3 : (X + Y / 4294967296).tdiv 4294967296 = (X + Y / 4294967296) / 4294967296 := Int.tdiv_eq_ediv_of_nonneg (by omega)
  have d4 : (X + Y / 4294967296).tmod 4294967296 = (X + Y / 4294967296) % 4294967296 := Int.tmod_eq_emod_of_nonneg (by omega)
  rw [d3, d4]
  generalize hC : X + Y / 4294967296 = C at *
  rw [u64i (x := C % 4294967296) (by omega) (by omega)]
  have d5 : (C % 4294967296).tdiv 4294967296 = 0 := by rw [Int.tdiv_eq_ediv_of_nonneg (by omega)]; omega
  have d6 : (C % 4294967296).tmod 4294967296 = C % 4294967296 := by rw [Int.tmod_eq_emod_of_nonneg (by omega)]; omega
  rw [d5, d6, k0, Int.add_zero]
  simp only [u64w]
  have r1 : C / 4294967296 % 18446744073709551616 % 18446744073709551616 % 18446744073709551616 = (X * 4294967296 + Y) / 18446744073709551616 := by omega
  have r2 : (C % 4294967296 * 4294967296 % 18446744073709551616 + Y % 4294967296) % 18446744073709551616 = (X * 4294967296 + Y) % 18446744073709551616 := by omega
  rw [r1, r2]
/-- Times a small number, if it has room. -/
theorem rscl_ev {a b : Int} (ha : May a) (hb0 : 0 < b) (hb : b ≤ 10000) : D 98 [.sc (.int .i64 a), .sc (.int .i64 b), .sc (.int .i64 1)] = some (pvGa (mulS a b)) := by
  have mb : May b := by unfold May; omega
  have m1 : May 1 := by decide
  have hA := natAbs_lt ha
  rw [f98_eq 0]
  simp only [rmay8_ev ha.i, rmay8_ev mb.i, rmay8_ev m1.i, decide_eq_true ha, decide_eq_true mb, decide_eq_true m1, bs, shb, if_true, tb, bA, bO]
  refine im (by decide) (cb (abs_ev m1) rfl (cb (abs_ev ha) rfl (cb (abs_ev mb) rfl ?_)))
  have eb : (b.natAbs : Int) = b := by omega
  simp only [ti]
  rw [eb]
  refine cb (timesS_ev hA.1 (by omega) (by omega) hb) rfl ?_
  rw [show (((1 : Int).natAbs : Nat) : Int) = 1 from rfl]
  have hp : 0 ≤ (a.natAbs : Int) * b := Int.mul_nonneg hA.1 (by omega)
  have hp2 : (a.natAbs : Int) * b ≤ 9223372036854775807 * 10000 := Int.mul_le_mul hA.2 hb (by omega) (by decide)
  have hab : (a.natAbs : Int) * b = if a < 0 then -(a * b) else a * b := by
    split
    · rw [← Int.neg_mul]; congr 1; omega
    · congr 1; omega
  obtain ⟨Q, h1, h2, h3, h4⟩ := divide_ev (H := (a.natAbs : Int) * b / 18446744073709551616) (L := (a.natAbs : Int) * b % 18446744073709551616) (b := 1) (by decide) (by decide) (by omega) (by omega) (by omega) (by omega)
  have e5 : (a.natAbs : Int) * b / 18446744073709551616 * 18446744073709551616 + (a.natAbs : Int) * b % 18446744073709551616 = (a.natAbs : Int) * b := by omega
  rw [e5, Int.ediv_one, Int.emod_one] at h1
  rw [e5, Int.ediv_one] at h2
  refine cb h1 rfl ?_
  generalize hP : (a.natAbs : Int) * b = p at *
  show (if (!(decide (p < 18446744073709551616)) || decide (Q > 9223372036854775807)) = true then _ else _) = _
  by_cases hm : p ≤ 9223372036854775807
  · have hQ := h2 (by omega)
    subst hQ
    rw [mulS_yes ⟨ha, mb, by unfold May; split at hab <;> omega⟩]
    refine im (by simp; omega) (im (show ¬ decide (IntKind.u64.wrap (1 - 0) ≤ (0 : Int)) = true by decide) ?_)
    show f98.j0a 0 a b 1 Q 0 false = _
    rw [f98.j0a_eq]
    refine im (by rw [decide_eq_true_eq]; omega) ?_
    have db : decide (b < 0) = false := decide_eq_false (by omega)
    rw [w64 (x := Q) (by omega) (by omega)]
    by_cases ha0 : a < 0
    · rw [if_pos ha0] at hab
      refine ip (by rw [decide_eq_true ha0, db]; rfl) (im (by decide) ?_)
      rw [w64 (by omega) (by omega)]
      exact congrArg (fun z => some (pvGa (z, true))) (by omega)
    · rw [if_neg ha0] at hab
      refine im (by rw [decide_eq_false ha0, db]; decide) (im (by decide) ?_)
      exact congrArg (fun z => some (pvGa (z, true))) (by omega)
  · rw [mulS_no (by unfold May; split at hab <;> omega)]
    refine ip ?_ rfl
    rw [Bool.or_eq_true]
    by_cases h5 : p < 18446744073709551616
    · have hQ := h2 h5
      exact .inr (by rw [decide_eq_true_eq]; omega)
    · exact .inl (by rw [decide_eq_false h5]; rfl)
/-- Rounded to a multiple of a step: the half away from 0. -/
def upR (x st : Int) : Bool := decide (st - x % st < x % st) || (decide (st - x % st = x % st) && decide (x > 0))
def rnd (x st : Int) : Int × Bool := if x % st = 0 then (x, true) else mulS (if upR x st = true then x / st + 1 else x / st) st
theorem down_ev {x st : Int} (hx : May x) (h0 : 0 < st) (h1 : st ≤ 10000) : D 174 [.sc (.int .i64 x), .sc (.int .i64 st)] = some (.sc (.int .i64 (x / st))) := by
  unfold May at hx
  obtain ⟨hq, hq1, hq2⟩ := tdm x h0
  have hm1 : x.tmod st < st := by
    by_cases h : 0 ≤ x
    · exact (hq1 h).2
    · have := (hq2 (by omega)).2; omega
  have hm2 : -st < x.tmod st := by
    by_cases h : 0 ≤ x
    · have := (hq1 h).1; omega
    · exact (hq2 (by omega)).1
  have hsg : (0 ≤ x → 0 ≤ x.tmod st) ∧ (x ≤ 0 → x.tmod st ≤ 0) := ⟨fun h => (hq1 h).1, fun h => (hq2 h).2⟩
  rw [f174_eq 0]
  refine ip ⟨rfl, by omega⟩ ?_
  have hu : ∀ q r : Int, x = q * st + r → 0 ≤ r → r < st → x / st = q := by
    intro q r h hr0 hr1
    rw [h, Int.add_comm, Int.add_mul_ediv_right _ _ (by omega), Int.ediv_eq_zero_of_lt hr0 hr1, Int.zero_add]
  have hqr : -9223372036854775808 ≤ x.tdiv st ∧ x.tdiv st ≤ 9223372036854775807 := by
    have h3 := Int.natAbs_tdiv_le_natAbs x st
    omega
  have hprod : x.tdiv st * st = x - x.tmod st := by omega
  rw [w64 (x := x.tdiv st) hqr.1 hqr.2, bA]
  have e2 : IntKind.i64.wrap (x.tdiv st * st) = x - x.tmod st := by
    rw [hprod, w64]
    · by_cases h : 0 ≤ x
      · have := hsg.1 h; omega
      · have := hsg.2 (by omega); omega
    · by_cases h : 0 ≤ x
      · have := hsg.1 h; omega
      · have := hsg.2 (by omega); omega
  by_cases hc : x < 0 ∧ x.tmod st ≠ 0
  · refine ip (by rw [tb, e2, decide_eq_true hc.1]; simp; omega) ?_
    have := hsg.2 (by omega)
    rw [hu (x.tdiv st - 1) (x.tmod st + st) (by rw [Int.sub_mul]; omega) (by omega) (by omega)]
    rw [w64 _ (by omega)]
    have : x.tdiv st ≠ -9223372036854775808 ∨ st = 1 := by
      by_cases h5 : st = 1
      · exact .inr h5
      · refine .inl fun h6 => ?_
        rw [h6] at hprod
        omega
    rcases this with h | h
    · omega
    · subst h
      have : x.tmod 1 = 0 := Int.tmod_one x
      exact absurd this hc.2
  · refine im (by
      rw [tb, e2]
      by_cases h : x < 0
      · have : x.tmod st = 0 := by
          by_cases h5 : x.tmod st = 0
          · exact h5
          · exact absurd ⟨h, h5⟩ hc
        rw [this]; simp
      · rw [decide_eq_false h]; simp) ?_
    have hr : 0 ≤ x.tmod st := by
      by_cases h : x < 0
      · by_cases h5 : x.tmod st = 0
        · omega
        · exact absurd ⟨h, h5⟩ hc
      · exact hsg.1 (by omega)
    rw [hu (x.tdiv st) (x.tmod st) (by omega) hr hm1]
end Go.Den.ET
