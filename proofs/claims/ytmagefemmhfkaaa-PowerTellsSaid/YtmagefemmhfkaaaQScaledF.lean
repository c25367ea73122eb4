/- dec.Scaled and oculusref08.Scaled: what they answer, and when it is the same. -/
import Derived.Test.YtmagefemmhfkaaaQDivideF
import Derived.Test.YtmagefemmhfkaaaQDiv64H
import Derived.Test.YtmagefemmhfkaaaPBx5
import Derived.Test.YtmagefemmhfkaaaPBx17
namespace Go.Proofs.Ytmagefemmhfkaaa.Q
open Go Go.RowKit Go.Proofs.Ytmagefemmhfkaaa.PA Go.Proofs.YtmagefemmhfkaaaW.PrintWords Go.Proofs.YtmagefemmhfkaaaW.PrintLast Go.Proofs.YtmagefemmhfkaaaW.PrintMore
set_option linter.unusedVariables false
set_option linter.unusedSimpArgs false

def May (x : Int) : Prop := -9223372036854775808 < x ∧ x ≤ 9223372036854775807
instance (x : Int) : Decidable (May x) := by unfold May; infer_instance
theorem may_f {x : Int} (h0 : -9223372036854775808 ≤ x) (h1 : x ≤ 9223372036854775807) : dec_May.f x = some (decide (May x)) := by
  unfold dec_May.f
  congr 1
  rw [Bool.eq_iff_iff, bne_iff_ne, decide_eq_true_iff]
  unfold May; omega
theorem rmay_f {x : Int} (h0 : -9223372036854775808 ≤ x) (h1 : x ≤ 9223372036854775807) : oculusref08_May.f x = some (decide (May x)) := by
  unfold oculusref08_May.f May
  congr 2
  apply propext; omega

/-- The sign of what three signs give. -/
def sg (a b c q : Int) : Int := if ((decide (a < 0) != decide (b < 0)) != decide (c < 0)) = true then -q else q
theorem sign_f (x : Int) : dec_Sign.f x = some (if x < 0 then -1 else if x > 0 then 1 else 0) := by
  unfold dec_Sign.f
  split
  · rfl
  · split <;> rfl

/-- The quotient, rounded, as the program has it: a quotient of 2^64 - 1 that is rounded up comes to 0. -/
def upP (n m : Int) : Int := if m - n % m ≤ n % m then (n / m + 1) % 18446744073709551616 else n / m
def scaledP (a b c : Int) : Int × Bool :=
  if May a ∧ May b ∧ May c ∧ c ≠ 0 then
    (if a.natAbs * b.natAbs / 18446744073709551616 ≥ (c.natAbs : Int) then (0, false)
     else if upP (a.natAbs * b.natAbs) c.natAbs > 9223372036854775807 then (0, false) else (sg a b c (upP (a.natAbs * b.natAbs) c.natAbs), true))
  else (0, false)
/-- As the reference has it. -/
def upR (n m : Int) : Int := if m - n % m ≤ n % m then n / m + 1 else n / m
def scaledR (a b c : Int) : Int × Bool :=
  if May a ∧ May b ∧ May c ∧ c ≠ 0 then
    (if (a.natAbs * b.natAbs : Int) / c.natAbs > 9223372036854775807 then (0, false)
     else if upR (a.natAbs * b.natAbs) c.natAbs > 9223372036854775807 then (0, false) else (sg a b c (upR (a.natAbs * b.natAbs) c.natAbs), true))
  else (0, false)

theorem scaled_j1 {a b c q : Int} (hc : c ≠ 0) (h0 : 0 ≤ q) (h1 : q ≤ 9223372036854775807) (hz : a = 0 ∨ b = 0 → q = 0) : Ev (fun k => dec_Scaled.j1 k a b c q) (sg a b c q, true) := by
  refine Ev.step (fun k => by rw [dec_Scaled.j1]) ?_
  refine Ev.neg (by omega) ?_
  simp only [sign_f, Option.bind_some]
  rw [w64 (x := q) (by omega) (by omega), w64 (x := -q) (by omega) (by omega)]
  unfold sg
  rcases Int.lt_trichotomy a 0 with ha | ha | ha
  · rcases Int.lt_trichotomy b 0 with hb | hb | hb
    · rcases Int.lt_trichotomy c 0 with h | h | h
      · simp only [if_pos ha, if_pos hb, if_pos h, decide_eq_true ha, decide_eq_true hb, decide_eq_true h]; exact ⟨0, fun _ _ => by simp [wrap64]⟩
      · omega
      · simp only [if_pos ha, if_pos hb, if_neg (show ¬ c < 0 by omega), if_pos (show c > 0 from h), decide_eq_true ha, decide_eq_true hb, decide_eq_false (show ¬ c < 0 by omega)]; exact ⟨0, fun _ _ => by simp [wrap64]⟩
    · obtain rfl := hz (.inr hb); simp only [Int.neg_zero, ite_self]; exact ⟨0, fun _ _ => by simp [wrap64]⟩
    · rcases Int.lt_trichotomy c 0 with h | h | h
      · simp only [if_pos ha, if_neg (show ¬ b < 0 by omega), if_pos (show b > 0 from hb), if_pos h, decide_eq_true ha, decide_eq_false (show ¬ b < 0 by omega), decide_eq_true h]; exact ⟨0, fun _ _ => by simp [wrap64]⟩
      · omega
      · simp only [if_pos ha, if_neg (show ¬ b < 0 by omega), if_pos (show b > 0 from hb), if_neg (show ¬ c < 0 by omega), if_pos (show c > 0 from h), decide_eq_true ha, decide_eq_false (show ¬ b < 0 by omega), decide_eq_false (show ¬ c < 0 by omega)]; exact ⟨0, fun _ _ => by simp [wrap64]⟩
  · obtain rfl := hz (.inl ha); simp only [Int.neg_zero, ite_self]; exact ⟨0, fun _ _ => by simp [wrap64]⟩
  · rcases Int.lt_trichotomy b 0 with hb | hb | hb
    · rcases Int.lt_trichotomy c 0 with h | h | h
      · simp only [if_neg (show ¬ a < 0 by omega), if_pos (show a > 0 from ha), if_pos hb, if_pos h, decide_eq_false (show ¬ a < 0 by omega), decide_eq_true hb, decide_eq_true h]; exact ⟨0, fun _ _ => by simp [wrap64]⟩
      · omega
      · simp only [if_neg (show ¬ a < 0 by omega), if_pos (show a > 0 from ha), if_pos hb, if_neg (show ¬ c < 0 by omega), if_pos (show c > 0 from h), decide_eq_false (show ¬ a < 0 by omega), decide_eq_true hb, decide_eq_false (show ¬ c < 0 by omega)]; exact ⟨0, fun _ _ => by simp [wrap64]⟩
    · obtain rfl := hz (.inr hb); simp only [Int.neg_zero, ite_self]; exact ⟨0, fun _ _ => by simp [wrap64]⟩
    · rcases Int.lt_trichotomy c 0 with h | h | h
      · simp only [if_neg (show ¬ a < 0 by omega), if_pos (show a > 0 from ha), if_neg (show ¬ b < 0 by omega), if_pos (show b > 0 from hb), if_pos h, decide_eq_false (show ¬ a < 0 by omega), decide_eq_false (show ¬ b < 0 by omega), decide_eq_true h]; exact ⟨0, fun _ _ => by simp [wrap64]⟩
      · omega
      · simp only [if_neg (show ¬ a < 0 by omega), if_pos (show a > 0 from ha), if_neg (show ¬ b < 0 by omega), if_pos (show b > 0 from hb), if_neg (show ¬ c < 0 by omega), if_pos (show c > 0 from h), decide_eq_false (show ¬ a < 0 by omega), decide_eq_false (show ¬ b < 0 by omega), decide_eq_false (show ¬ c < 0 by omega)]; exact ⟨0, fun _ _ => by simp [wrap64]⟩

theorem natAbs_lt {x : Int} (h : May x) : 0 ≤ (x.natAbs : Int) ∧ (x.natAbs : Int) ≤ 9223372036854775807 := by unfold May at h; omega
theorem abs_prod {a b : Int} (ha : May a) (hb : May b) : 0 ≤ (a.natAbs : Int) * b.natAbs ∧ (a.natAbs : Int) * b.natAbs ≤ 85070591730234615847396907784232501249 :=
  ⟨Int.mul_nonneg (natAbs_lt ha).1 (natAbs_lt hb).1, Int.le_trans (Int.mul_le_mul (natAbs_lt ha).2 (natAbs_lt hb).2 (natAbs_lt hb).1 (by decide)) (by decide)⟩

theorem scaled_ev {a b c : Int} (ha0 : -9223372036854775808 ≤ a) (ha1 : a ≤ 9223372036854775807) (hb0 : -9223372036854775808 ≤ b) (hb1 : b ≤ 9223372036854775807) (hc0 : -9223372036854775808 ≤ c) (hc1 : c ≤ 9223372036854775807) :
    Ev (fun k => dec_Scaled.f k a b c) (scaledP a b c) := by
  have no : Ev (fun k => dec_Scaled.j0 k a b c true) (0, false) := Ev.step (fun k => by rw [dec_Scaled.j0]) (Ev.pos rfl (Ev.now _))
  refine Ev.congr (fun k => by rw [dec_Scaled.f, may_f ha0 ha1, Option.bind_some]) ?_
  by_cases ha : May a
  · refine Ev.pos (decide_eq_true ha) ?_
    refine Ev.congr (fun k => by rw [may_f hb0 hb1, Option.bind_some]) ?_
    by_cases hb : May b
    · refine Ev.pos (decide_eq_true hb) ?_
      refine Ev.congr (fun k => by rw [may_f hc0 hc1, Option.bind_some]) ?_
      by_cases hc : May c
      · refine Ev.pos (decide_eq_true hc) ?_
        by_cases hz : c = 0
        · rw [show (c == 0) = true from beq_iff_eq.mpr hz, show scaledP a b c = (0, false) from if_neg (fun h => h.2.2.2 hz)]; exact no
        · rw [show (c == 0) = false from beq_eq_false_iff_ne.mpr hz, show scaledP a b c = _ from if_pos ⟨ha, hb, hc, hz⟩]
          refine Ev.step (fun k => by rw [dec_Scaled.j0]) (Ev.neg (by decide) ?_)
          unfold May at ha hb hc
          simp only [size_f c hc.1 hc.2, size_f a ha.1 ha.2, size_f b hb.1 hb.2, Option.bind_some]
          rw [mul64_f _ _ (by omega) (by omega) (by omega) (by omega)]
          simp only [Option.bind_some]
          have hp := abs_prod ha hb
          have hm : 0 < (c.natAbs : Int) := by omega
          by_cases ho : (a.natAbs : Int) * b.natAbs / 18446744073709551616 ≥ (c.natAbs : Int)
          · rw [if_pos ho]; exact Ev.pos ho (Ev.now _)
          · rw [if_neg ho]
            refine Ev.neg ho ?_
            have hd := div64_ev (hi := (a.natAbs : Int) * b.natAbs / 18446744073709551616) (lo := (a.natAbs : Int) * b.natAbs % 18446744073709551616) (y := (c.natAbs : Int)) (by omega) (by omega) (by omega) (by omega) (by omega) (by omega)
            rw [show (a.natAbs : Int) * b.natAbs / 18446744073709551616 * 18446744073709551616 + (a.natAbs : Int) * b.natAbs % 18446744073709551616 = (a.natAbs : Int) * b.natAbs by omega] at hd
            refine Ev.bind hd ?_
            dsimp only
            have hr0 := Int.emod_nonneg ((a.natAbs : Int) * b.natAbs) (b := (c.natAbs : Int)) (by omega)
            have hr1 := Int.emod_lt_of_pos ((a.natAbs : Int) * b.natAbs) hm
            have hq0 : 0 ≤ (a.natAbs : Int) * b.natAbs / (c.natAbs : Int) := Int.ediv_nonneg hp.1 (by omega)
            have hz' : a = 0 ∨ b = 0 → upP (a.natAbs * b.natAbs) c.natAbs = 0 := by
              intro h
              have : (a.natAbs : Int) * b.natAbs = 0 := by
                rcases h with rfl | rfl <;> simp
              unfold upP
              rw [this, Int.zero_ediv, Int.zero_emod, if_neg (by omega)]
            have key : Ev (fun k => dec_Scaled.j1 k a b c (upP (a.natAbs * b.natAbs) c.natAbs)) (if upP (a.natAbs * b.natAbs) c.natAbs > 9223372036854775807 then (0, false) else (sg a b c (upP (a.natAbs * b.natAbs) c.natAbs), true)) := by
              by_cases hq : upP (a.natAbs * b.natAbs) c.natAbs > 9223372036854775807
              · rw [if_pos hq]; exact Ev.step (fun k => by rw [dec_Scaled.j1]) (Ev.pos hq (Ev.now _))
              · rw [if_neg hq]
                refine scaled_j1 hz ?_ (by omega) hz'
                unfold upP; split <;> omega
            rw [u64i (x := (c.natAbs : Int) - (a.natAbs : Int) * b.natAbs % (c.natAbs : Int)) (by omega) (by omega)]
            by_cases hu : (a.natAbs : Int) * b.natAbs % (c.natAbs : Int) ≥ (c.natAbs : Int) - (a.natAbs : Int) * b.natAbs % (c.natAbs : Int)
            · refine Ev.pos hu ?_
              rw [u64w]
              have e : upP (a.natAbs * b.natAbs) c.natAbs = ((a.natAbs : Int) * b.natAbs / (c.natAbs : Int) + 1) % 18446744073709551616 := if_pos hu
              rw [← e]; exact key
            · refine Ev.neg hu ?_
              have e : upP (a.natAbs * b.natAbs) c.natAbs = (a.natAbs : Int) * b.natAbs / (c.natAbs : Int) := if_neg hu
              rw [← e]; exact key
      · rw [show scaledP a b c = (0, false) from if_neg (fun h => hc h.2.2.1)]
        exact Ev.neg (by rw [decide_eq_false hc]; decide) no
    · rw [show scaledP a b c = (0, false) from if_neg (fun h => hb h.2.1)]
      exact Ev.neg (by rw [decide_eq_false hb]; decide) no
  · rw [show scaledP a b c = (0, false) from if_neg (fun h => ha h.1)]
    exact Ev.neg (by rw [decide_eq_false ha]; decide) no

theorem rscaled_j2 {a b c q : Int} (h0 : 0 ≤ q) (h1 : q ≤ 9223372036854775807) : Ev (fun k => oculusref08_Scaled.j2 k a b c q) (sg a b c q, true) := by
  refine Ev.step (fun k => by rw [oculusref08_Scaled.j2]) ?_
  refine Ev.neg (by omega) ?_
  rw [w64 (x := q) (by omega) (by omega), w64 (x := -q) (by omega) (by omega), w64 (x := - -q) (by omega) (by omega)]
  unfold sg
  by_cases hx : (decide (a < 0) != decide (b < 0)) = true
  · refine Ev.pos hx ?_
    rw [hx]
    by_cases hc : c < 0
    · refine Ev.pos hc ?_
      rw [decide_eq_true hc, Int.neg_neg]; exact Ev.now _
    · refine Ev.neg hc ?_
      rw [decide_eq_false hc]; exact Ev.now _
  · refine Ev.neg hx ?_
    rw [Bool.eq_false_iff.mpr hx]
    by_cases hc : c < 0
    · refine Ev.pos hc ?_
      rw [decide_eq_true hc]; exact Ev.now _
    · refine Ev.neg hc ?_
      rw [decide_eq_false hc]; exact Ev.now _

theorem rscaled_ev {a b c : Int} (ha0 : -9223372036854775808 ≤ a) (ha1 : a ≤ 9223372036854775807) (hb0 : -9223372036854775808 ≤ b) (hb1 : b ≤ 9223372036854775807) (hc0 : -9223372036854775808 ≤ c) (hc1 : c ≤ 9223372036854775807) :
    Ev (fun k => oculusref08_Scaled.f k a b c) (scaledR a b c) := by
  have no : Ev (fun k => oculusref08_Scaled.j0 k a b c true) (0, false) := Ev.step (fun k => by rw [oculusref08_Scaled.j0]) (Ev.pos rfl (Ev.now _))
  refine Ev.congr (fun k => by rw [oculusref08_Scaled.f, rmay_f ha0 ha1, Option.bind_some]) ?_
  by_cases ha : May a
  · refine Ev.pos (decide_eq_true ha) ?_
    refine Ev.congr (fun k => by rw [rmay_f hb0 hb1, Option.bind_some]) ?_
    by_cases hb : May b
    · refine Ev.pos (decide_eq_true hb) ?_
      refine Ev.congr (fun k => by rw [rmay_f hc0 hc1, Option.bind_some]) ?_
      by_cases hc : May c
      · refine Ev.pos (decide_eq_true hc) ?_
        by_cases hz : c = 0
        · rw [show (c == 0) = true from beq_iff_eq.mpr hz, show scaledR a b c = (0, false) from if_neg (fun h => h.2.2.2 hz)]; exact no
        · rw [show (c == 0) = false from beq_eq_false_iff_ne.mpr hz, show scaledR a b c = _ from if_pos ⟨ha, hb, hc, hz⟩]
          refine Ev.step (fun k => by rw [oculusref08_Scaled.j0]) (Ev.neg (by decide) ?_)
          unfold May at ha hb hc
          simp only [abs_f c hc.1 hc.2, abs_f a ha.1 ha.2, abs_f b hb.1 hb.2, Option.bind_some]
          rw [times_f _ _ (by omega) (by omega) (by omega) (by omega)]
          simp only [Option.bind_some]
          have hp := abs_prod ha hb
          have hm : 0 < (c.natAbs : Int) := by omega
          obtain ⟨Q', hd, hQ, hQ0, hQ1⟩ := divide_ev (H := (a.natAbs : Int) * b.natAbs / 18446744073709551616) (L := (a.natAbs : Int) * b.natAbs % 18446744073709551616) (b := (c.natAbs : Int)) hm (by omega) (by omega) (by omega) (by omega) (by omega)
          rw [show (a.natAbs : Int) * b.natAbs / 18446744073709551616 * 18446744073709551616 + (a.natAbs : Int) * b.natAbs % 18446744073709551616 = (a.natAbs : Int) * b.natAbs by omega] at hd hQ
          refine Ev.bind hd ?_
          dsimp only
          have hr0 := Int.emod_nonneg ((a.natAbs : Int) * b.natAbs) (b := (c.natAbs : Int)) (by omega)
          have hr1 := Int.emod_lt_of_pos ((a.natAbs : Int) * b.natAbs) hm
          have hq0 : 0 ≤ (a.natAbs : Int) * b.natAbs / (c.natAbs : Int) := Int.ediv_nonneg hp.1 (by omega)
          have stop : ∀ Q R ok, Ev (fun k => oculusref08_Scaled.j1 k a b c (c.natAbs : Int) true Q R ok) (0, false) := fun Q R ok => Ev.step (fun k => by rw [oculusref08_Scaled.j1]) (Ev.pos rfl (Ev.now _))
          generalize hdd : decide ((a.natAbs : Int) * b.natAbs / (c.natAbs : Int) < 18446744073709551616) = dd
          by_cases h64 : (a.natAbs : Int) * b.natAbs / (c.natAbs : Int) < 18446744073709551616
          · obtain rfl : dd = true := by rw [← hdd]; exact decide_eq_true h64
            refine Ev.pos rfl ?_
            have eQ := hQ h64
            rw [eQ]
            by_cases ho : (a.natAbs : Int) * b.natAbs / (c.natAbs : Int) > 9223372036854775807
            · rw [if_pos ho, decide_eq_true ho]; exact stop _ _ _
            · rw [if_neg ho, decide_eq_false ho]
              refine Ev.step (fun k => by rw [oculusref08_Scaled.j1]) (Ev.neg (by decide) ?_)
              have key : Ev (fun k => oculusref08_Scaled.j2 k a b c (upR (a.natAbs * b.natAbs) c.natAbs)) (if upR (a.natAbs * b.natAbs) c.natAbs > 9223372036854775807 then (0, false) else (sg a b c (upR (a.natAbs * b.natAbs) c.natAbs), true)) := by
                by_cases hq : upR (a.natAbs * b.natAbs) c.natAbs > 9223372036854775807
                · rw [if_pos hq]; exact Ev.step (fun k => by rw [oculusref08_Scaled.j2]) (Ev.pos hq (Ev.now _))
                · rw [if_neg hq]
                  refine rscaled_j2 ?_ (by omega)
                  unfold upR; split <;> omega
              rw [u64i (x := (c.natAbs : Int) - (a.natAbs : Int) * b.natAbs % (c.natAbs : Int)) (by omega) (by omega)]
              by_cases hu : (c.natAbs : Int) - (a.natAbs : Int) * b.natAbs % (c.natAbs : Int) ≤ (a.natAbs : Int) * b.natAbs % (c.natAbs : Int)
              · refine Ev.pos hu ?_
                rw [u64i (x := (a.natAbs : Int) * b.natAbs / (c.natAbs : Int) + 1) (by omega) (by omega)]
                have e : upR (a.natAbs * b.natAbs) c.natAbs = (a.natAbs : Int) * b.natAbs / (c.natAbs : Int) + 1 := if_pos hu
                rw [← e]; exact key
              · refine Ev.neg hu ?_
                have e : upR (a.natAbs * b.natAbs) c.natAbs = (a.natAbs : Int) * b.natAbs / (c.natAbs : Int) := if_neg hu
                rw [← e]; exact key
          · rw [if_pos (by omega)]
            obtain rfl : dd = false := by rw [← hdd]; exact decide_eq_false h64
            refine Ev.neg (by decide) ?_
            exact stop _ _ _
      · rw [show scaledR a b c = (0, false) from if_neg (fun h => hc h.2.2.1)]
        exact Ev.neg (by rw [decide_eq_false hc]; decide) no
    · rw [show scaledR a b c = (0, false) from if_neg (fun h => hb h.2.1)]
      exact Ev.neg (by rw [decide_eq_false hb]; decide) no
  · rw [show scaledR a b c = (0, false) from if_neg (fun h => ha h.1)]
    exact Ev.neg (by rw [decide_eq_false ha]; decide) no

/-- Both are the same, but where the program's quotient comes round to 0. -/
theorem scaled_eq {a b c : Int} (h : ¬ ((a.natAbs : Int) * b.natAbs / c.natAbs = 18446744073709551615 ∧ (c.natAbs : Int) - (a.natAbs : Int) * b.natAbs % c.natAbs ≤ (a.natAbs : Int) * b.natAbs % c.natAbs)) : scaledP a b c = scaledR a b c := by
  unfold scaledP scaledR
  by_cases hc : May a ∧ May b ∧ May c ∧ c ≠ 0
  · rw [if_pos hc, if_pos hc]
    have hp := abs_prod hc.1 hc.2.1
    have hm : 0 < (c.natAbs : Int) := by omega
    have hq0 : 0 ≤ (a.natAbs : Int) * b.natAbs / (c.natAbs : Int) := Int.ediv_nonneg hp.1 (by omega)
    have hiff : (a.natAbs : Int) * b.natAbs / 18446744073709551616 ≥ (c.natAbs : Int) ↔ ¬ (a.natAbs : Int) * b.natAbs / (c.natAbs : Int) < 18446744073709551616 := by
      rw [Int.ediv_lt_iff_lt_mul hm, Int.not_lt, ge_iff_le, Int.le_ediv_iff_mul_le (by decide), Int.mul_comm]
    unfold upP upR
    by_cases h64 : (a.natAbs : Int) * b.natAbs / (c.natAbs : Int) < 18446744073709551616
    · rw [if_neg (fun hh => hiff.1 hh h64)]
      by_cases hu : (c.natAbs : Int) - (a.natAbs : Int) * b.natAbs % (c.natAbs : Int) ≤ (a.natAbs : Int) * b.natAbs % (c.natAbs : Int)
      · simp only [if_pos hu]
        have : (a.natAbs : Int) * b.natAbs / (c.natAbs : Int) ≠ 18446744073709551615 := fun e => h ⟨e, hu⟩
        rw [show ((a.natAbs : Int) * b.natAbs / (c.natAbs : Int) + 1) % 18446744073709551616 = (a.natAbs : Int) * b.natAbs / (c.natAbs : Int) + 1 by omega]
        by_cases ho : (a.natAbs : Int) * b.natAbs / (c.natAbs : Int) > 9223372036854775807
        · rw [if_pos ho, if_pos (by omega)]
        · rw [if_neg ho]
      · simp only [if_neg hu]
        by_cases ho : (a.natAbs : Int) * b.natAbs / (c.natAbs : Int) > 9223372036854775807
        · simp only [if_pos ho]
        · simp only [if_neg ho]
    · rw [if_pos (hiff.2 h64), if_pos (by omega)]
  · rw [if_neg hc, if_neg hc]
end Go.Proofs.Ytmagefemmhfkaaa.Q
