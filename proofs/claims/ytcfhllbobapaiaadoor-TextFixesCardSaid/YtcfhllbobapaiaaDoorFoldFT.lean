/- The reference's way to scale: bit by bit. -/
import Derived.Test.YtcfhllbobapaiaaDoorFoldET
set_option linter.unusedVariables false
set_option linter.unusedSimpArgs false
set_option maxRecDepth 100000
namespace Go.Den.ET
open Go Go.Proofs
def pvO (q r : Int) (ok : Bool) : PV := .agg [.sc (.int .u64 q), .sc (.int .u64 r), .sc (.bool ok)]
theorem divide_l0 {b : Int} (hb : 0 < b) (hb' : b ≤ 9223372036854775808) (d : Nat) : ∀ (i H L Q R q0 X S : Int), i = 128 - (d : Int) → d ≤ 128 →
    0 ≤ H → H < 18446744073709551616 → 0 ≤ L → L < 18446744073709551616 → H * 18446744073709551616 + L = X * S → 0 ≤ X → X < 2 ^ d → 0 < S → 2 ^ d * S = 340282366920938463463374607431768211456 →
    0 ≤ q0 → 0 ≤ R → R < b → (q0 < 18446744073709551616 → Q = q0) → 0 ≤ Q → Q < 18446744073709551616 →
    ∃ Q', f145.l0a 0 b i H L 0 0 false Q R (decide (q0 < 18446744073709551616)) = some (pvO Q' (((b * q0 + R) * 2 ^ d + X) % b) (decide (((b * q0 + R) * 2 ^ d + X) / b < 18446744073709551616)))
      ∧ (((b * q0 + R) * 2 ^ d + X) / b < 18446744073709551616 → Q' = ((b * q0 + R) * 2 ^ d + X) / b) ∧ 0 ≤ Q' ∧ Q' < 18446744073709551616 := by
  induction d with
  | zero =>
    intro i H L Q R q0 X S hi hd hH0 hH hL0 hL hHL hX0 hX hS hMS hq0 hR0 hR hQ hQ0 hQ1
    obtain rfl : X = 0 := by have : X < 1 := hX; omega
    have e : (b * q0 + R) * 2 ^ 0 + 0 = R + b * q0 := by rw [Int.pow_zero, Int.mul_one, Int.add_zero, Int.add_comm]
    have hu : (R + b * q0) / b = q0 ∧ (R + b * q0) % b = R := (Int.ediv_emod_unique hb).2 ⟨rfl, hR0, hR⟩
    rw [e, hu.1, hu.2]
    refine ⟨Q, ?_, hQ, hQ0, hQ1⟩
    rw [f145.l0a_eq]
    exact im (by rw [decide_eq_true_eq]; omega) rfl
  | succ d ih =>
    intro i H L Q R q0 X S hi hd hH0 hH hL0 hL hHL hX0 hX hS hMS hq0 hR0 hR hQ hQ0 hQ1
    have hM2 : (2 : Int) ^ (d + 1) = 2 ^ d * 2 := Int.pow_succ ..
    have hMp : (0 : Int) < 2 ^ d := Int.pow_pos (by decide)
    rw [hM2] at hX hMS
    have hMS' : 2 ^ d * S = 170141183460469231731687303715884105728 := by
      rw [Int.mul_assoc, Int.mul_comm 2 S, ← Int.mul_assoc] at hMS
      omega
    -- the bit
    obtain ⟨bit, X', hbit, hbX, hX'0, hX', hH63, hXS⟩ : ∃ bit X' : Int, (bit = 0 ∨ bit = 1) ∧ X = bit * 2 ^ d + X' ∧ 0 ≤ X' ∧ X' < 2 ^ d ∧ H / 9223372036854775808 = bit ∧ X' * (2 * S) = 2 * (H * 18446744073709551616 + L) - bit * 340282366920938463463374607431768211456 := by
      by_cases hc : 2 ^ d ≤ X
      · refine ⟨1, X - 2 ^ d, .inr rfl, by omega, by omega, by omega, ?_, ?_⟩
        · have := Int.mul_le_mul_of_nonneg_right hc (Int.le_of_lt hS)
          omega
        · rw [hHL, Int.sub_mul, Int.mul_left_comm X 2 S, Int.mul_left_comm (2 ^ d) 2 S, hMS']; omega
      · refine ⟨0, X, .inl rfl, by omega, by omega, by omega, ?_, ?_⟩
        · have := Int.mul_lt_mul_of_pos_right (Int.lt_of_not_ge hc) hS
          omega
        · rw [hHL, Int.mul_left_comm X 2 S]; omega
    have hbit01 : 0 ≤ bit ∧ bit ≤ 1 := by omega
    have hN : ∀ c : Int, (b * q0 + R) * 2 ^ (d + 1) + X = (b * (2 * q0 + c) + (2 * R + bit - c * b)) * 2 ^ d + X' := by
      intro c
      rw [hM2, hbX]
      generalize (2 : Int) ^ d = M
      grind
    have eH : IntKind.u64.wrap (IntKind.u64.wrap (H * 2) + IntKind.u64.wrap (Int.tdiv L 9223372036854775808)) = 2 * H - bit * 18446744073709551616 + L / 9223372036854775808 := by
      rw [Int.tdiv_eq_ediv_of_nonneg hL0]; simp only [u64w]; omega
    have eL : IntKind.u64.wrap (L * 2) = 2 * L % 18446744073709551616 := by rw [u64w, Int.mul_comm]
    have eR : IntKind.u64.wrap (IntKind.u64.wrap (R * 2) + IntKind.u64.wrap (Int.tdiv H 9223372036854775808)) = 2 * R + bit := by
      rw [Int.tdiv_eq_ediv_of_nonneg hH0, hH63]; simp only [u64w]; omega
    have hi1 : IntKind.i64.wrap (i + 1) = i + 1 := w64 (by omega) (by omega)
    have go : ∀ (c Q1 : Int), (c = 0 ∨ c = 1) → (c = 1 ↔ b ≤ 2 * R + bit) → Q1 = (if c = 1 then IntKind.u64.wrap (IntKind.u64.wrap (Q * 2) + 1) else IntKind.u64.wrap (Q * 2)) →
        ∃ Q', f145.l0a 0 b (IntKind.i64.wrap (i + 1)) (2 * H - bit * 18446744073709551616 + L / 9223372036854775808) (2 * L % 18446744073709551616) 0 0 false Q1 (2 * R + bit - c * b) (decide (2 * q0 + c < 18446744073709551616)) =
          some (pvO Q' (((b * q0 + R) * 2 ^ (d + 1) + X) % b) (decide (((b * q0 + R) * 2 ^ (d + 1) + X) / b < 18446744073709551616))) ∧ (((b * q0 + R) * 2 ^ (d + 1) + X) / b < 18446744073709551616 → Q' = ((b * q0 + R) * 2 ^ (d + 1) + X) / b) ∧ 0 ≤ Q' ∧ Q' < 18446744073709551616 := by
      intro c Q1 hc hcb hQ1e
      rw [hN c, hi1]
      refine ih (i + 1) _ _ Q1 (2 * R + bit - c * b) (2 * q0 + c) X' (2 * S) (by omega) (by omega) ?_ ?_ (by omega) (by omega) ?_ hX'0 hX' (by omega) ?_ (by omega) ?_ ?_ ?_ ?_ ?_
      · omega
      · omega
      · rw [hXS]; omega
      · rw [Int.mul_left_comm, hMS']; decide
      · rcases hc with rfl | rfl <;> omega
      · rcases hc with rfl | rfl <;> omega
      · intro h
        have := hQ (by omega)
        subst this
        rcases hc with rfl | rfl
        · rw [hQ1e, if_neg (by decide), u64w]; omega
        · rw [hQ1e, if_pos rfl, u64w, u64w]; omega
      · rw [hQ1e]; split <;> rw [u64w] <;> omega
      · rw [hQ1e]; split <;> rw [u64w] <;> omega
    have fin : ∀ ok' : Bool, (∀ c : Int, (c = 0 ∨ c = 1) → ok' = decide (2 * q0 + c < 18446744073709551616)) → ∃ Q', (if decide (IntKind.u64.wrap (IntKind.u64.wrap (R * 2) + IntKind.u64.wrap (Int.tdiv H 9223372036854775808)) ≥ b) = true
          then f145.l0a 0 b (IntKind.i64.wrap (i + 1)) (IntKind.u64.wrap (IntKind.u64.wrap (H * 2) + IntKind.u64.wrap (Int.tdiv L 9223372036854775808))) (IntKind.u64.wrap (L * 2)) 0 0 false (IntKind.u64.wrap (IntKind.u64.wrap (Q * 2) + 1)) (IntKind.u64.wrap (IntKind.u64.wrap (IntKind.u64.wrap (R * 2) + IntKind.u64.wrap (Int.tdiv H 9223372036854775808)) - b)) ok'
          else f145.l0a 0 b (IntKind.i64.wrap (i + 1)) (IntKind.u64.wrap (IntKind.u64.wrap (H * 2) + IntKind.u64.wrap (Int.tdiv L 9223372036854775808))) (IntKind.u64.wrap (L * 2)) 0 0 false (IntKind.u64.wrap (Q * 2)) (IntKind.u64.wrap (IntKind.u64.wrap (R * 2) + IntKind.u64.wrap (Int.tdiv H 9223372036854775808))) ok')
          = some (pvO Q' (((b * q0 + R) * 2 ^ (d + 1) + X) % b) (decide (((b * q0 + R) * 2 ^ (d + 1) + X) / b < 18446744073709551616))) ∧ (((b * q0 + R) * 2 ^ (d + 1) + X) / b < 18446744073709551616 → Q' = ((b * q0 + R) * 2 ^ (d + 1) + X) / b) ∧ 0 ≤ Q' ∧ Q' < 18446744073709551616 := by
      intro ok' hok
      rw [eH, eL, eR]
      by_cases hcb : 2 * R + bit ≥ b
      · obtain ⟨Q', h1, h2⟩ := go 1 _ (.inr rfl) ⟨fun _ => hcb, fun _ => rfl⟩ (by rw [if_pos rfl])
        refine ⟨Q', ip (decide_eq_true hcb) ?_, h2⟩
        rw [u64i (x := 2 * R + bit - b) (by omega) (by omega), hok 1 (.inr rfl)]
        rw [Int.one_mul] at h1
        exact h1
      · obtain ⟨Q', h1, h2⟩ := go 0 _ (.inl rfl) ⟨fun h => by omega, fun h => absurd h hcb⟩ (by rw [if_neg (by decide)])
        refine ⟨Q', im (by rw [decide_eq_true_eq]; exact hcb) ?_, h2⟩
        rw [hok 0 (.inl rfl)]
        rw [Int.zero_mul, Int.sub_zero] at h1
        exact h1
    by_cases hok : q0 < 18446744073709551616
    · have hQe := hQ hok
      obtain ⟨Q', h1, h2⟩ := fin (decide (Q < 9223372036854775808)) (fun c hc => by rw [hQe]; congr 1; apply propext; omega)
      refine ⟨Q', ?_, h2⟩
      rw [f145.l0a_eq]
      refine ip (by rw [decide_eq_true_eq]; omega) ?_
      rw [bA, tb, decide_eq_true hok, Bool.true_and]
      exact h1
    · obtain ⟨Q', h1, h2⟩ := fin false (fun c hc => by rw [decide_eq_false (by omega)])
      refine ⟨Q', ?_, h2⟩
      rw [f145.l0a_eq]
      refine ip (by rw [decide_eq_true_eq]; omega) ?_
      rw [bA, tb, decide_eq_false hok, Bool.false_and]
      exact h1

theorem divide_ev {H L b : Int} (hb : 0 < b) (hb' : b ≤ 9223372036854775808) (hH0 : 0 ≤ H) (hH : H < 18446744073709551616) (hL0 : 0 ≤ L) (hL : L < 18446744073709551616) :
    ∃ Q', D 145 [.agg [.sc (.int .u64 H), .sc (.int .u64 L)], .sc (.int .u64 b)] = some (pvO Q' ((H * 18446744073709551616 + L) % b) (decide ((H * 18446744073709551616 + L) / b < 18446744073709551616)))
      ∧ ((H * 18446744073709551616 + L) / b < 18446744073709551616 → Q' = (H * 18446744073709551616 + L) / b) ∧ 0 ≤ Q' ∧ Q' < 18446744073709551616 := by
  have := divide_l0 hb hb' 128 0 H L 0 0 0 (H * 18446744073709551616 + L) 1 (by decide) (by decide) hH0 hH hL0 hL (by rw [Int.mul_one]) (by omega) (by show _ < (340282366920938463463374607431768211456 : Int); omega) (by decide) (by decide) (by decide) (by decide) hb (fun _ => rfl) (by decide) (by decide)
  rw [show (b * 0 + 0) * 2 ^ 128 + (H * 18446744073709551616 + L) = H * 18446744073709551616 + L by omega] at this
  rw [f145_eq 0]
  exact this
theorem times1_ev {a : Int} (h0 : 0 ≤ a) (h1 : a < 18446744073709551616) : D 146 [.sc (.int .u64 a), .sc (.int .u64 1)] = some (.agg [.sc (.int .u64 0), .sc (.int .u64 a)]) := by
  rw [f146_eq 0]
  have e1 : (1 : Int).tdiv 4294967296 = 0 := rfl
  have e2 : (1 : Int).tmod 4294967296 = 1 := rfl
  have e3 : a.tdiv 4294967296 = a / 4294967296 := Int.tdiv_eq_ediv_of_nonneg h0
  have e4 : a.tmod 4294967296 = a % 4294967296 := Int.tmod_eq_emod_of_nonneg h0
  have k0 : IntKind.u64.wrap 0 = 0 := rfl
  rw [e1, e2, e3, e4, k0, Int.mul_zero, Int.mul_zero, Int.mul_one, Int.mul_one, k0]
  rw [u64i (x := a / 4294967296) (by omega) (by omega), u64i (x := a % 4294967296) (by omega) (by omega), u64i (x := a / 4294967296) (by omega) (by omega)]
  have e5 : (a % 4294967296).tdiv 4294967296 = 0 := by rw [Int.tdiv_eq_ediv_of_nonneg (by omega)]; omega
  have e6 : (a % 4294967296).tmod 4294967296 = a % 4294967296 := by rw [Int.tmod_eq_emod_of_nonneg (by omega)]; omega
  rw [e5, k0, Int.add_zero, u64i (x := a / 4294967296) (by omega) (by omega)]
  have e7 : (a / 4294967296).tdiv 4294967296 = 0 := by rw [Int.tdiv_eq_ediv_of_nonneg (by omega)]; omega
  have e8 : (a / 4294967296).tmod 4294967296 = a / 4294967296 := by rw [Int.tmod_eq_emod_of_nonneg (by omega)]; omega
  rw [e7, e8, k0, Int.add_zero, k0, Int.zero_add, Int.zero_add, u64i (x := a / 4294967296) (by omega) (by omega), e7, e8, k0, e6]
  rw [u64i (x := a / 4294967296 * 4294967296) (by omega) (by omega), u64i (x := a / 4294967296 * 4294967296 + a % 4294967296) (by omega) (by omega)]
  exact congrArg (fun z => some (PV.agg [.sc (.int .u64 0), .sc (.int .u64 z)])) (by omega)
theorem rmid_ev {a : Int} {n : Nat} (ha : May a) (hn : 1 ≤ n) (hn2 : n ≤ 1000) : D 98 [.sc (.int .i64 a), .sc (.int .i64 1), .sc (.int .i64 (n : Int))] = some (pvGa (mid a n, true)) := by
  have mn : May (n : Int) := by unfold May; omega
  have m1 : May 1 := by decide
  have hA := natAbs_lt ha
  rw [f98_eq 0]
  simp only [rmay8_ev ha.i, rmay8_ev mn.i, rmay8_ev m1.i, decide_eq_true ha, decide_eq_true mn, decide_eq_true m1, bs, shb, if_true, tb, bA, bO]
  refine im (by simp; omega) (cb (abs_ev mn) rfl (cb (abs_ev ha) rfl (cb (abs_ev m1) rfl ?_)))
  simp only [ti]
  refine cb (times1_ev hA.1 (by omega)) rfl ?_
  rw [show ((n : Int).natAbs : Int) = (n : Int) from rfl]
  obtain ⟨Q, h1, h2, h3, h4⟩ := divide_ev (H := 0) (L := (a.natAbs : Int)) (b := (n : Int)) (by omega) (by omega) (by decide) (by decide) hA.1 (by omega)
  rw [show (0 : Int) * 18446744073709551616 + (a.natAbs : Int) = (a.natAbs : Int) by omega] at h1 h2
  have hm := Nat.mod_lt a.natAbs hn
  have hd := Nat.div_le_self a.natAbs n
  have hd0 : (0 : Int) ≤ ((a.natAbs / n : Nat) : Int) := Int.natCast_nonneg _
  rw [← Int.natCast_ediv, ← Int.natCast_emod] at h1
  rw [← Int.natCast_ediv] at h2
  have hQ := h2 (by omega)
  rw [decide_eq_true (by omega), hQ] at h1
  refine cb h1 rfl ?_
  have hr := rq_le hA.2 hn
  have fin : f98.j0a 0 a 1 (n : Int) (rq a.natAbs n : Int) 0 false = some (pvGa (mid a n, true)) := by
    rw [f98.j0a_eq]
    refine im (by rw [decide_eq_true_eq]; omega) ?_
    rw [w64 (x := (rq a.natAbs n : Int)) (by omega) (by omega)]
    unfold mid
    by_cases h : a < 0
    · rw [if_pos h]
      refine ip (by rw [decide_eq_true h]; rfl) (im (by rw [decide_eq_true_eq]; omega) ?_)
      rw [w64 (by omega) (by omega), Int.zero_sub]; rfl
    · rw [if_neg h]
      exact im (by rw [decide_eq_false h]; decide) (im (by rw [decide_eq_true_eq]; omega) rfl)
  unfold rq at fin
  refine im (by show ¬ (!true || decide (((a.natAbs / n : Nat) : Int) > 9223372036854775807)) = true; rw [decide_eq_false (by omega)]; decide) ?_
  show (if decide (IntKind.u64.wrap ((n : Int) - ((a.natAbs % n : Nat) : Int)) ≤ ((a.natAbs % n : Nat) : Int)) = true then f98.j0a 0 a 1 (n : Int) (IntKind.u64.wrap (((a.natAbs / n : Nat) : Int) + 1)) 0 false else f98.j0a 0 a 1 (n : Int) ((a.natAbs / n : Nat) : Int) 0 false) = _
  rw [u64i (x := (n : Int) - ((a.natAbs % n : Nat) : Int)) (by omega) (by omega), u64i (x := ((a.natAbs / n : Nat) : Int) + 1) (by omega) (by omega)]
  by_cases h : n - a.natAbs % n ≤ a.natAbs % n
  · refine ip (by rw [decide_eq_true_eq]; omega) ?_
    rw [if_pos h] at fin
    exact fin
  · refine im (by rw [decide_eq_true_eq]; omega) ?_
    rw [if_neg h] at fin
    exact fin
/-- The middle of a list. -/
def meanV (l : List Vl) : Vl :=
  if nums l = [] then badV 1 else if (sumS (nums l) 0).2 = true then numV (mid (sumS (nums l) 0).1 (nums l).length) else badV 4
theorem num_kind {x : Int} (h : May x) : numV x = ⟨1, x, E⟩ := by
  unfold numV madeV
  rw [if_pos]
  unfold May at h
  simp [mayV, em_E]
  omega
theorem mid_i {a : Int} {n : Nat} (ha : May a) (hn : 1 ≤ n) : I64 (mid a n) := by
  have := rq_le (natAbs_lt ha).2 hn
  unfold mid I64
  split <;> omega
end Go.Den.ET
