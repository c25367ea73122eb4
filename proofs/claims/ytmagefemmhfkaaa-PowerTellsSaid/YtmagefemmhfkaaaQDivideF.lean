/- oculusref08.Divide answers the quotient and the rest, bit by bit. -/
import Derived.Test.YtmagefemmhfkaaaQEvs
import Derived.Test.YtmagefemmhfkaaaPBx16
namespace Go.Proofs.Ytmagefemmhfkaaa.Q
open Go Go.RowKit Go.Proofs.Ytmagefemmhfkaaa.PA Go.Proofs.YtmagefemmhfkaaaW.PrintWords Go.Proofs.YtmagefemmhfkaaaW.PrintLast Go.Proofs.YtmagefemmhfkaaaW.PrintMore
set_option linter.unusedVariables false
set_option linter.unusedSimpArgs false

theorem divide_l0 {b : Int} (hb : 0 < b) (hb' : b ≤ 9223372036854775808) (d : Nat) : ∀ (i H L Q R q0 X S : Int), i = 128 - (d : Int) → d ≤ 128 →
    0 ≤ H → H < 18446744073709551616 → 0 ≤ L → L < 18446744073709551616 → H * 18446744073709551616 + L = X * S → 0 ≤ X → X < 2 ^ d → 0 < S → 2 ^ d * S = 340282366920938463463374607431768211456 →
    0 ≤ q0 → 0 ≤ R → R < b → (q0 < 18446744073709551616 → Q = q0) → 0 ≤ Q → Q < 18446744073709551616 →
    ∃ Q', Ev (fun k => oculusref08_Divide.l0 k b i H L Q R (decide (q0 < 18446744073709551616))) (Q', ((b * q0 + R) * 2 ^ d + X) % b, decide (((b * q0 + R) * 2 ^ d + X) / b < 18446744073709551616))
      ∧ (((b * q0 + R) * 2 ^ d + X) / b < 18446744073709551616 → Q' = ((b * q0 + R) * 2 ^ d + X) / b) ∧ 0 ≤ Q' ∧ Q' < 18446744073709551616 := by
  induction d with
  | zero =>
    intro i H L Q R q0 X S hi hd hH0 hH hL0 hL hHL hX0 hX hS hMS hq0 hR0 hR hQ hQ0 hQ1
    obtain rfl : X = 0 := by have : X < 1 := hX; omega
    have e : (b * q0 + R) * 2 ^ 0 + 0 = R + b * q0 := by rw [Int.pow_zero, Int.mul_one, Int.add_zero, Int.add_comm]
    have hu : (R + b * q0) / b = q0 ∧ (R + b * q0) % b = R := (Int.ediv_emod_unique hb).2 ⟨rfl, hR0, hR⟩
    rw [e, hu.1, hu.2]
    refine ⟨Q, ?_, hQ, hQ0, hQ1⟩
    refine Ev.step (fun k => by rw [oculusref08_Divide.l0]) ?_
    exact Ev.neg (by omega) (Ev.now _)
  | succ d ih =>
    intro i H L Q R q0 X S hi hd hH0 hH hL0 hL hHL hX0 hX hS hMS hq0 hR0 hR hQ hQ0 hQ1
    have hM2 : (2 : Int) ^ (d + 1) = 2 ^ d * 2 := Int.pow_succ ..
    have hMp : (0 : Int) < 2 ^ d := Int.pow_pos (by decide)
    rw [hM2] at hX hMS
    have hMS' : 2 ^ d * S = 170141183460469231731687303715884105728 := by
      rw [Int.mul_assoc, Int.mul_comm 2 S, ← Int.mul_assoc] at hMS
      omega
    -- the bit
    obtain ⟨bit, X', hbit, hbX, hX'0, hX', hH63, hXS⟩ : ∃ bit X' : Int, (bit = 0 ∨ bit = 1) ∧ X = bit * 2 ^ d + X' ∧ 0 ≤ X' ∧ X' < 2 ^ d ∧ H / 9223372036854775808 = bit ∧ X' * (2 * S) = 2 * (H * 18446744073709551616 + L) - bit * 340282366920938463463374607431768211456 := by
      by_cases hc : 2 ^ d ≤ X
      · refine ⟨1, X - 2 ^ d, .inr rfl, by omega, by omega, by omega, ?_, ?_⟩
        · have := Int.mul_le_mul_of_nonneg_right hc (Int.le_of_lt hS)
          omega
        · rw [hHL, Int.sub_mul, Int.mul_left_comm X 2 S, Int.mul_left_comm (2 ^ d) 2 S, hMS']; omega
      · refine ⟨0, X, .inl rfl, by omega, by omega, by omega, ?_, ?_⟩
        · have := Int.mul_lt_mul_of_pos_right (Int.lt_of_not_ge hc) hS
          omega
        · rw [hHL, Int.mul_left_comm X 2 S]; omega
    have hbit01 : 0 ≤ bit ∧ bit ≤ 1 := by omega
    have hN : ∀ c : Int, (b * q0 + R) * 2 ^ (d + 1) + X = (b * (2 * q0 + c) + (2 * R + bit - c * b)) * 2 ^ d + X' := by
      intro c
      rw [hM2, hbX]
      generalize (2 : Int) ^ d = M
      grind
    have eH : IntKind.u64.wrap (IntKind.u64.wrap (H * 2) + IntKind.u64.wrap (Int.tdiv L 9223372036854775808)) = 2 * H - bit * 18446744073709551616 + L / 9223372036854775808 := by
      rw [Int.tdiv_eq_ediv_of_nonneg hL0]; simp only [u64w]; omega
    have eL : IntKind.u64.wrap (L * 2) = 2 * L % 18446744073709551616 := by rw [u64w, Int.mul_comm]
    have eR : IntKind.u64.wrap (IntKind.u64.wrap (R * 2) + IntKind.u64.wrap (Int.tdiv H 9223372036854775808)) = 2 * R + bit := by
      rw [Int.tdiv_eq_ediv_of_nonneg hH0, hH63]; simp only [u64w]; omega
    have hi1 : wrap64 (i + 1) = i + 1 := w64 (by omega) (by omega)
    have go : ∀ (c Q1 : Int), (c = 0 ∨ c = 1) → (c = 1 ↔ b ≤ 2 * R + bit) → Q1 = (if c = 1 then IntKind.u64.wrap (IntKind.u64.wrap (Q * 2) + 1) else IntKind.u64.wrap (Q * 2)) →
        ∃ Q', Ev (fun k => oculusref08_Divide.l0 k b (wrap64 (i + 1)) (2 * H - bit * 18446744073709551616 + L / 9223372036854775808) (2 * L % 18446744073709551616) Q1 (2 * R + bit - c * b) (decide (2 * q0 + c < 18446744073709551616)))
          (Q', ((b * q0 + R) * 2 ^ (d + 1) + X) % b, decide (((b * q0 + R) * 2 ^ (d + 1) + X) / b < 18446744073709551616)) ∧ (((b * q0 + R) * 2 ^ (d + 1) + X) / b < 18446744073709551616 → Q' = ((b * q0 + R) * 2 ^ (d + 1) + X) / b) ∧ 0 ≤ Q' ∧ Q' < 18446744073709551616 := by
      intro c Q1 hc hcb hQ1e
      rw [hN c, hi1]
      refine ih (i + 1) _ _ Q1 (2 * R + bit - c * b) (2 * q0 + c) X' (2 * S) (by omega) (by omega) ?_ ?_ (by omega) (by omega) ?_ hX'0 hX' (by omega) ?_ (by omega) ?_ ?_ ?_ ?_ ?_
      · omega
      · omega
      · rw [hXS]; omega
      · rw [Int.mul_left_comm, hMS']; decide
      · rcases hc with rfl | rfl <;> omega
      · rcases hc with rfl | rfl <;> omega
      · intro h
        have := hQ (by omega)
        subst this
        rcases hc with rfl | rfl
        · rw [hQ1e, if_neg (by decide), u64w]; omega
        · rw [hQ1e, if_pos rfl, u64w, u64w]; omega
      · rw [hQ1e]; split <;> rw [u64w] <;> omega
      · rw [hQ1e]; split <;> rw [u64w] <;> omega
    have fin : ∀ ok' : Bool, (∀ c : Int, (c = 0 ∨ c = 1) → ok' = decide (2 * q0 + c < 18446744073709551616)) → ∃ Q', Ev (fun k => if IntKind.u64.wrap (IntKind.u64.wrap (R * 2) + IntKind.u64.wrap (Int.tdiv H 9223372036854775808)) ≥ b
          then oculusref08_Divide.l0 k b (wrap64 (i + 1)) (IntKind.u64.wrap (IntKind.u64.wrap (H * 2) + IntKind.u64.wrap (Int.tdiv L 9223372036854775808))) (IntKind.u64.wrap (L * 2)) (IntKind.u64.wrap (IntKind.u64.wrap (Q * 2) + 1)) (IntKind.u64.wrap (IntKind.u64.wrap (IntKind.u64.wrap (R * 2) + IntKind.u64.wrap (Int.tdiv H 9223372036854775808)) - b)) ok'
          else oculusref08_Divide.l0 k b (wrap64 (i + 1)) (IntKind.u64.wrap (IntKind.u64.wrap (H * 2) + IntKind.u64.wrap (Int.tdiv L 9223372036854775808))) (IntKind.u64.wrap (L * 2)) (IntKind.u64.wrap (Q * 2)) (IntKind.u64.wrap (IntKind.u64.wrap (R * 2) + IntKind.u64.wrap (Int.tdiv H 9223372036854775808))) ok')
          (Q', ((b * q0 + R) * 2 ^ (d + 1) + X) % b, decide (((b * q0 + R) * 2 ^ (d + 1) + X) / b < 18446744073709551616)) ∧ (((b * q0 + R) * 2 ^ (d + 1) + X) / b < 18446744073709551616 → Q' = ((b * q0 + R) * 2 ^ (d + 1) + X) / b) ∧ 0 ≤ Q' ∧ Q' < 18446744073709551616 := by
      intro ok' hok
      rw [eH, eL, eR]
      by_cases hcb : 2 * R + bit ≥ b
      · obtain ⟨Q', h1, h2⟩ := go 1 _ (.inr rfl) ⟨fun _ => hcb, fun _ => rfl⟩ (by rw [if_pos rfl])
        refine ⟨Q', Ev.pos hcb ?_, h2⟩
        rw [u64i (x := 2 * R + bit - b) (by omega) (by omega), hok 1 (.inr rfl)]
        rw [Int.one_mul] at h1
        exact h1
      · obtain ⟨Q', h1, h2⟩ := go 0 _ (.inl rfl) ⟨fun h => by omega, fun h => absurd h hcb⟩ (by rw [if_neg (by decide)])
        refine ⟨Q', Ev.neg hcb ?_, h2⟩
        rw [hok 0 (.inl rfl)]
        rw [Int.zero_mul, Int.sub_zero] at h1
        exact h1
    by_cases hok : q0 < 18446744073709551616
    · have hQe := hQ hok
      obtain ⟨Q', h1, h2⟩ := fin (decide (Q < 9223372036854775808)) (fun c hc => by rw [hQe]; congr 1; apply propext; omega)
      refine ⟨Q', Ev.step (fun k => by rw [oculusref08_Divide.l0]) (Ev.pos (by omega) (Ev.pos (by rw [decide_eq_true hok]) h1)), h2⟩
    · obtain ⟨Q', h1, h2⟩ := fin false (fun c hc => by rw [decide_eq_false (by omega)])
      refine ⟨Q', Ev.step (fun k => by rw [oculusref08_Divide.l0]) (Ev.pos (by omega) (Ev.neg (by rw [decide_eq_false hok]; decide) h1)), h2⟩

theorem divide_ev {H L b : Int} (hb : 0 < b) (hb' : b ≤ 9223372036854775808) (hH0 : 0 ≤ H) (hH : H < 18446744073709551616) (hL0 : 0 ≤ L) (hL : L < 18446744073709551616) :
    ∃ Q', Ev (fun k => oculusref08_Divide.f k H L b) (Q', (H * 18446744073709551616 + L) % b, decide ((H * 18446744073709551616 + L) / b < 18446744073709551616))
      ∧ ((H * 18446744073709551616 + L) / b < 18446744073709551616 → Q' = (H * 18446744073709551616 + L) / b) ∧ 0 ≤ Q' ∧ Q' < 18446744073709551616 := by
  have := divide_l0 hb hb' 128 0 H L 0 0 0 (H * 18446744073709551616 + L) 1 (by decide) (by decide) hH0 hH hL0 hL (by rw [Int.mul_one]) (by omega) (by show _ < (340282366920938463463374607431768211456 : Int); omega) (by decide) (by decide) (by decide) (by decide) hb (fun _ => rfl) (by decide) (by decide)
  rw [show (b * 0 + 0) * 2 ^ 128 + (H * 18446744073709551616 + L) = H * 18446744073709551616 + L by omega] at this
  exact this
end Go.Proofs.Ytmagefemmhfkaaa.Q
