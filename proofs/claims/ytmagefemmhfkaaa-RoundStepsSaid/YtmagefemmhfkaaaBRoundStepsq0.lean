/- RoundSteps: any decimal, rounded to any step by any mode, to any places, and to whole numbers, is the reference's. -/
import Derived.Test.YtmagefemmhfkaaaBRoundStepsw
import Derived.Test.YtmagefemmhfkaaaBRoundStepsp0
import Derived.Test.YtmagefemmhfkaaaBRoundStepsp1
import Derived.Test.YtmagefemmhfkaaaBRoundStepsp2
import Derived.Test.YtmagefemmhfkaaaBRoundStepsp3
import Derived.KernelRfl
import Derived.Test.YtmagefemmhfkaaaBRoundStepsp4
import Derived.Test.YtmagefemmhfkaaaBRoundStepsp7
import Derived.Test.YtmagefemmhfkaaaRows
import Derived.WalkKit
import Derived.ProofKit
import Derived.OpenShut
import Derived.ShutString
import Derived.ChangeOld
import Derived.Below
import Derived.SizedLaws

namespace Go.Proofs.Ytmagefemmhfkaaa.Q
open Go Go.RowKit Go.Proofs.YtmagefemmhfkaaaW.PrintWords
theorem i64_of_wf {x : Int} (h : (Lit.int .i64 x).wf = true) : -9223372036854775808 ≤ x ∧ x ≤ 9223372036854775807 := by
  simp [Lit.wf, IntKind.min, IntKind.max, IntKind.bits, IntKind.signed] at h
  omega
theorem w64 {x : Int} (h0 : -9223372036854775808 ≤ x) (h1 : x ≤ 9223372036854775807) : wrap64 x = x := by
  unfold wrap64; omega
theorem u64w (x : Int) : IntKind.u64.wrap x = x % 18446744073709551616 := by
  simp [IntKind.wrap, IntKind.bits, IntKind.signed]
theorem u64i {x : Int} (h0 : 0 ≤ x) (h : x < 18446744073709551616) : IntKind.u64.wrap x = x := by
  rw [u64w]; omega
theorem and32 {a : Int} (h0 : 0 ≤ a) (h1 : a < 18446744073709551616) : Go.bits .and .u64 a 4294967295 = a % 4294967296 :=
  bits_mask .u64 64 (by decide) (fun n h0 h1 => u64i h0 (by simpa using h1)) 32 (by decide) a h0 (by simpa using h1)
theorem prodB {x y : Int} (hx0 : 0 ≤ x) (hx : x ≤ 4294967295) (hy0 : 0 ≤ y) (hy : y ≤ 4294967295) : 0 ≤ x * y ∧ x * y ≤ 18446744065119617025 :=
  ⟨Int.mul_nonneg hx0 hy0, Int.le_trans (Int.mul_le_mul hx hy hy0 (by decide)) (by decide)⟩
end Go.Proofs.Ytmagefemmhfkaaa.Q

namespace Go.Proofs.Ytmagefemmhfkaaa.Q
open Go Go.RowKit Go.Proofs.YtmagefemmhfkaaaW.PrintWords Go.Proofs.YtmagefemmhfkaaaW.PrintLast Go.Proofs.YtmagefemmhfkaaaW.PrintMore
set_option linter.unusedVariables false
set_option linter.unusedSimpArgs false
theorem Ev.pos {α : Type} {c : Prop} {inst : Decidable c} {f g : Nat → Option α} {r : α} (h : c) (k : Ev f r) : Ev (fun n => if c then f n else g n) r := by
  simpa only [if_pos h] using k
theorem Ev.neg {α : Type} {c : Prop} {inst : Decidable c} {f g : Nat → Option α} {r : α} (h : ¬ c) (k : Ev g r) : Ev (fun n => if c then f n else g n) r := by
  simpa only [if_neg h] using k
theorem Ev.ite {α : Type} {c : Prop} {inst : Decidable c} {f g : Nat → Option α} {r : α} (h : c → Ev f r) (k : ¬ c → Ev g r) : Ev (fun n => if c then f n else g n) r := by
  by_cases hc : c
  · exact Ev.pos hc (h hc)
  · exact Ev.neg hc (k hc)
theorem Ev.some_bind {α β : Type} {a : α} {x : Option α} {f : Nat → α → Option β} {r : β} (h : x = some a) (k : Ev (fun n => f n a) r) : Ev (fun n => x.bind (f n)) r := by
  subst h; exact k
end Go.Proofs.Ytmagefemmhfkaaa.Q

namespace Go.Proofs.Ytmagefemmhfkaaa.Q
open Go Go.RowKit Go.Proofs.Ytmagefemmhfkaaa.PA Go.Proofs.YtmagefemmhfkaaaW.PrintWords Go.Proofs.YtmagefemmhfkaaaW.PrintLast Go.Proofs.YtmagefemmhfkaaaW.PrintMore
set_option linter.unusedVariables false
set_option linter.unusedSimpArgs false
theorem divide_l0 {b : Int} (hb : 0 < b) (hb' : b ≤ 9223372036854775808) (d : Nat) : ∀ (i H L Q R q0 X S : Int), i = 128 - (d : Int) → d ≤ 128 →
    0 ≤ H → H < 18446744073709551616 → 0 ≤ L → L < 18446744073709551616 → H * 18446744073709551616 + L = X * S → 0 ≤ X → X < 2 ^ d → 0 < S → 2 ^ d * S = 340282366920938463463374607431768211456 →
    0 ≤ q0 → 0 ≤ R → R < b → (q0 < 18446744073709551616 → Q = q0) → 0 ≤ Q → Q < 18446744073709551616 →
    ∃ Q', Ev (fun k => oculusref08_Divide.l0 k b i H L Q R (decide (q0 < 18446744073709551616))) (Q', ((b * q0 + R) * 2 ^ d + X) % b, decide (((b * q0 + R) * 2 ^ d + X) / b < 18446744073709551616))
      ∧ (((b * q0 + R) * 2 ^ d + X) / b < 18446744073709551616 → Q' = ((b * q0 + R) * 2 ^ d + X) / b) ∧ 0 ≤ Q' ∧ Q' < 18446744073709551616 := by
  induction d with
  | zero =>
    intro i H L Q R q0 X S hi hd hH0 hH hL0 hL hHL hX0 hX hS hMS hq0 hR0 hR hQ hQ0 hQ1
    obtain rfl : X = 0 := by have : X < 1 := hX; omega
    have e : (b * q0 + R) * 2 ^ 0 + 0 = R + b * q0 := by rw [Int.pow_zero, Int.mul_one, Int.add_zero, Int.add_comm]
    have hu : (R + b * q0) / b = q0 ∧ (R + b * q0) % b = R := (Int.ediv_emod_unique hb).2 ⟨rfl, hR0, hR⟩
    rw [e, hu.1, hu.2]
    refine ⟨Q, ?_, hQ, hQ0, hQ1⟩
    refine Ev.step (fun k => by rw [oculusref08_Divide.l0]) ?_
    exact Ev.neg (by omega) (Ev.now _)
  | succ d ih =>
    intro i H L Q R q0 X S hi hd hH0 hH hL0 hL hHL hX0 hX hS hMS hq0 hR0 hR hQ hQ0 hQ1
    have hM2 : (2 : Int) ^ (d + 1) = 2 ^ d * 2 := Int.pow_succ ..
    have hMp : (0 : Int) < 2 ^ d := Int.pow_pos (by decide)
    rw [hM2] at hX hMS
    have hMS' : 2 ^ d * S = 170141183460469231731687303715884105728 := by
      rw [Int.mul_assoc, Int.mul_comm 2 S, ← Int.mul_assoc] at hMS
      omega
    obtain ⟨bit, X', hbit, hbX, hX'0, hX', hH63, hXS⟩ : ∃ bit X' : Int, (bit = 0 ∨ bit = 1) ∧ X = bit * 2 ^ d + X' ∧ 0 ≤ X' ∧ X' < 2 ^ d ∧ H / 9223372036854775808 = bit ∧ X' * (2 * S) = 2 * (H * 18446744073709551616 + L) - bit * 340282366920938463463374607431768211456 := by
      by_cases hc : 2 ^ d ≤ X
      · refine ⟨1, X - 2 ^ d, .inr rfl, by omega, by omega, by omega, ?_, ?_⟩
        · have := Int.mul_le_mul_of_nonneg_right hc (Int.le_of_lt hS)
          omega
        · rw [hHL, Int.sub_mul, Int.mul_left_comm X 2 S, Int.mul_left_comm (2 ^ d) 2 S, hMS']; omega
      · refine ⟨0, X, .inl rfl, by omega, by omega, by omega, ?_, ?_⟩
        · have := Int.mul_lt_mul_of_pos_right (Int.lt_of_not_ge hc) hS
          omega
        · rw [hHL, Int.mul_left_comm X 2 S]; omega
    have hbit01 : 0 ≤ bit ∧ bit ≤ 1 := by omega
    have hN : ∀ c : Int, (b * q0 + R) * 2 ^ (d + 1) + X = (b * (2 * q0 + c) + (2 * R + bit - c * b)) * 2 ^ d + X' := by
      intro c
      rw [hM2, hbX]
      generalize (2 : Int) ^ d = M
      grind
    have eH : IntKind.u64.wrap (IntKind.u64.wrap (H * 2) + IntKind.u64.wrap (Int.tdiv L 9223372036854775808)) = 2 * H - bit * 18446744073709551616 + L / 9223372036854775808 := by
      rw [Int.tdiv_eq_ediv_of_nonneg hL0]; simp only [u64w]; omega
    have eL : IntKind.u64.wrap (L * 2) = 2 * L % 18446744073709551616 := by rw [u64w, Int.mul_comm]
    have eR : IntKind.u64.wrap (IntKind.u64.wrap (R * 2) + IntKind.u64.wrap (Int.tdiv H 9223372036854775808)) = 2 * R + bit := by
      rw [Int.tdiv_eq_ediv_of_nonneg hH0, hH63]; simp only [u64w]; omega
    have hi1 : wrap64 (i + 1) = i + 1 := w64 (by omega) (by omega)
    have go : ∀ (c Q1 : Int), (c = 0 ∨ c = 1) → (c = 1 ↔ b ≤ 2 * R + bit) → Q1 = (if c = 1 then IntKind.u64.wrap (IntKind.u64.wrap (Q * 2) + 1) else IntKind.u64.wrap (Q * 2)) →
        ∃ Q', Ev (fun k => oculusref08_Divide.l0 k b (wrap64 (i + 1)) (2 * H - bit * 18446744073709551616 + L / 9223372036854775808) (2 * L % 18446744073709551616) Q1 (2 * R + bit - c * b) (decide (2 * q0 + c < 18446744073709551616)))
          (Q', ((b * q0 + R) * 2 ^ (d + 1) + X) % b, decide (((b * q0 + R) * 2 ^ (d + 1) + X) / b < 18446744073709551616)) ∧ (((b * q0 + R) * 2 ^ (d + 1) + X) / b < 18446744073709551616 → Q' = ((b * q0 + R) * 2 ^ (d + 1) + X) / b) ∧ 0 ≤ Q' ∧ Q' < 18446744073709551616 := by
      intro c Q1 hc hcb hQ1e
      rw [hN c, hi1]
      refine ih (i + 1) _ _ Q1 (2 * R + bit - c * b) (2 * q0 + c) X' (2 * S) (by omega) (by omega) ?_ ?_ (by omega) (by omega) ?_ hX'0 hX' (by omega) ?_ (by omega) ?_ ?_ ?_ ?_ ?_
      · omega
      · omega
      · rw [hXS]; omega
      · rw [Int.mul_left_comm, hMS']; decide
      · rcases hc with rfl | rfl <;> omega
      · rcases hc with rfl | rfl <;> omega
      · intro h
        have := hQ (by omega)
        subst this
        rcases hc with rfl | rfl
        · rw [hQ1e, if_neg (by decide), u64w]; omega
        · rw [hQ1e, if_pos rfl, u64w, u64w]; omega
      · rw [hQ1e]; split <;> rw [u64w] <;> omega
      · rw [hQ1e]; split <;> rw [u64w] <;> omega
    have fin : ∀ ok' : Bool, (∀ c : Int, (c = 0 ∨ c = 1) → ok' = decide (2 * q0 + c < 18446744073709551616)) → ∃ Q', Ev (fun k => if IntKind.u64.wrap (IntKind.u64.wrap (R * 2) + IntKind.u64.wrap (Int.tdiv H 9223372036854775808)) ≥ b
          then oculusref08_Divide.l0 k b (wrap64 (i + 1)) (IntKind.u64.wrap (IntKind.u64.wrap (H * 2) + IntKind.u64.wrap (Int.tdiv L 9223372036854775808))) (IntKind.u64.wrap (L * 2)) (IntKind.u64.wrap (IntKind.u64.wrap (Q * 2) + 1)) (IntKind.u64.wrap (IntKind.u64.wrap (IntKind.u64.wrap (R * 2) + IntKind.u64.wrap (Int.tdiv H 9223372036854775808)) - b)) ok'
          else oculusref08_Divide.l0 k b (wrap64 (i + 1)) (IntKind.u64.wrap (IntKind.u64.wrap (H * 2) + IntKind.u64.wrap (Int.tdiv L 9223372036854775808))) (IntKind.u64.wrap (L * 2)) (IntKind.u64.wrap (Q * 2)) (IntKind.u64.wrap (IntKind.u64.wrap (R * 2) + IntKind.u64.wrap (Int.tdiv H 9223372036854775808))) ok')
          (Q', ((b * q0 + R) * 2 ^ (d + 1) + X) % b, decide (((b * q0 + R) * 2 ^ (d + 1) + X) / b < 18446744073709551616)) ∧ (((b * q0 + R) * 2 ^ (d + 1) + X) / b < 18446744073709551616 → Q' = ((b * q0 + R) * 2 ^ (d + 1) + X) / b) ∧ 0 ≤ Q' ∧ Q' < 18446744073709551616 := by
      intro ok' hok
      rw [eH, eL, eR]
      by_cases hcb : 2 * R + bit ≥ b
      · obtain ⟨Q', h1, h2⟩ := go 1 _ (.inr rfl) ⟨fun _ => hcb, fun _ => rfl⟩ (by rw [if_pos rfl])
        refine ⟨Q', Ev.pos hcb ?_, h2⟩
        rw [u64i (x := 2 * R + bit - b) (by omega) (by omega), hok 1 (.inr rfl)]
        rw [Int.one_mul] at h1
        exact h1
      · obtain ⟨Q', h1, h2⟩ := go 0 _ (.inl rfl) ⟨fun h => by omega, fun h => absurd h hcb⟩ (by rw [if_neg (by decide)])
        refine ⟨Q', Ev.neg hcb ?_, h2⟩
        rw [hok 0 (.inl rfl)]
        rw [Int.zero_mul, Int.sub_zero] at h1
        exact h1
    by_cases hok : q0 < 18446744073709551616
    · have hQe := hQ hok
      obtain ⟨Q', h1, h2⟩ := fin (decide (Q < 9223372036854775808)) (fun c hc => by rw [hQe]; congr 1; apply propext; omega)
      refine ⟨Q', Ev.step (fun k => by rw [oculusref08_Divide.l0]) (Ev.pos (by omega) (Ev.pos (by rw [decide_eq_true hok]) h1)), h2⟩
    · obtain ⟨Q', h1, h2⟩ := fin false (fun c hc => by rw [decide_eq_false (by omega)])
      refine ⟨Q', Ev.step (fun k => by rw [oculusref08_Divide.l0]) (Ev.pos (by omega) (Ev.neg (by rw [decide_eq_false hok]; decide) h1)), h2⟩
theorem divide_ev {H L b : Int} (hb : 0 < b) (hb' : b ≤ 9223372036854775808) (hH0 : 0 ≤ H) (hH : H < 18446744073709551616) (hL0 : 0 ≤ L) (hL : L < 18446744073709551616) :
    ∃ Q', Ev (fun k => oculusref08_Divide.f k H L b) (Q', (H * 18446744073709551616 + L) % b, decide ((H * 18446744073709551616 + L) / b < 18446744073709551616))
      ∧ ((H * 18446744073709551616 + L) / b < 18446744073709551616 → Q' = (H * 18446744073709551616 + L) / b) ∧ 0 ≤ Q' ∧ Q' < 18446744073709551616 := by
  have := divide_l0 hb hb' 128 0 H L 0 0 0 (H * 18446744073709551616 + L) 1 (by decide) (by decide) hH0 hH hL0 hL (by rw [Int.mul_one]) (by omega) (by show _ < (340282366920938463463374607431768211456 : Int); omega) (by decide) (by decide) (by decide) (by decide) hb (fun _ => rfl) (by decide) (by decide)
  rw [show (b * 0 + 0) * 2 ^ 128 + (H * 18446744073709551616 + L) = H * 18446744073709551616 + L by omega] at this
  exact this
end Go.Proofs.Ytmagefemmhfkaaa.Q

namespace Go.Proofs.Ytmagefemmhfkaaa.Q
set_option linter.unusedVariables false
set_option linter.unusedSimpArgs false
theorem digit_stop {u d yn1 yn0 q rh : Int} (h1 : 0 < yn1 * 4294967296 + yn0) (hr : rh = u - q * yn1)
    (hc : q * yn0 ≤ 4294967296 * rh + d) : q ≤ (u * 4294967296 + d) / (yn1 * 4294967296 + yn0) := by
  refine Int.le_ediv_of_mul_le h1 ?_
  have e : q * (yn1 * 4294967296 + yn0) = (q * yn1) * 4294967296 + q * yn0 := by rw [Int.mul_add, ← Int.mul_assoc]
  rw [e]
  generalize q * yn1 = s at *
  generalize q * yn0 = t at *
  omega
theorem digit_more {u d yn1 yn0 q rh : Int} (hy1 : 0 < yn1) (hy0 : 0 ≤ yn0) (hd : d < 4294967296) (hu : u < yn1 * 4294967296 + yn0) (hr : rh = u - q * yn1)
    (hc : 4294967296 ≤ q ∨ 4294967296 * rh + d < q * yn0) : (u * 4294967296 + d) / (yn1 * 4294967296 + yn0) ≤ q - 1 := by
  have h1 : 0 < yn1 * 4294967296 + yn0 := by omega
  have key : (u * 4294967296 + d) / (yn1 * 4294967296 + yn0) < q := by
    refine Int.ediv_lt_of_lt_mul h1 ?_
    rcases hc with hc | hc
    · have := Int.mul_le_mul_of_nonneg_right hc (Int.le_of_lt h1)
      generalize q * (yn1 * 4294967296 + yn0) = z at *
      omega
    · have e : q * (yn1 * 4294967296 + yn0) = (q * yn1) * 4294967296 + q * yn0 := by rw [Int.mul_add, ← Int.mul_assoc]
      rw [e]
      generalize q * yn1 = s at *
      generalize q * yn0 = t at *
      omega
  omega
theorem digit_break {u d yn1 yn0 q rh : Int} (hy1 : 0 < yn1) (hy0 : 0 ≤ yn0) (hy0' : yn0 < 4294967296) (hd : 0 ≤ d) (hq0 : 1 ≤ q) (hq : q ≤ 4294967297) (hr : rh = u - q * yn1)
    (hb : 4294967296 ≤ rh + yn1) : q - 1 ≤ (u * 4294967296 + d) / (yn1 * 4294967296 + yn0) := by
  have h1 : 0 < yn1 * 4294967296 + yn0 := by omega
  refine Int.le_ediv_of_mul_le h1 ?_
  have e : (q - 1) * (yn1 * 4294967296 + yn0) = (q * yn1 - yn1) * 4294967296 + (q - 1) * yn0 := by
    rw [Int.mul_add, ← Int.mul_assoc, Int.sub_mul, Int.one_mul]
  have hm : (q - 1) * yn0 ≤ 4294967296 * 4294967295 := Int.mul_le_mul (by omega) (by omega) hy0 (by decide)
  rw [e]
  generalize q * yn1 = s at *
  generalize (q - 1) * yn0 = t at *
  omega
theorem digit_guess {u d yn1 yn0 : Int} (hy1 : 2147483648 ≤ yn1) (hy0 : 0 ≤ yn0) (hy0' : yn0 < 4294967296) (hu0 : 0 ≤ u) (hd0 : 0 ≤ d) (hd : d < 4294967296) (hu : u < yn1 * 4294967296 + yn0) :
    (u * 4294967296 + d) / (yn1 * 4294967296 + yn0) ≤ u / yn1 ∧ 0 ≤ u / yn1 ∧ u / yn1 ≤ 4294967297 ∧ 0 ≤ u - u / yn1 * yn1 ∧ u - u / yn1 * yn1 < yn1 := by
  have h1 : 0 < yn1 * 4294967296 + yn0 := by omega
  have hdm := Int.mul_ediv_add_emod u yn1
  have hm0 := Int.emod_nonneg u (b := yn1) (by omega)
  have hm1 := Int.emod_lt_of_pos u (b := yn1) (by omega)
  have hc : yn1 * (u / yn1) = u / yn1 * yn1 := Int.mul_comm ..
  refine ⟨?_, Int.ediv_nonneg hu0 (by omega), ?_, by omega, by omega⟩
  · refine Int.le_ediv_of_mul_le (by omega) ?_
    have h2 := Int.ediv_mul_le (u * 4294967296 + d) (b := yn1 * 4294967296 + yn0) (by omega)
    have hq0 : 0 ≤ (u * 4294967296 + d) / (yn1 * 4294967296 + yn0) := Int.ediv_nonneg (by omega) (by omega)
    generalize (u * 4294967296 + d) / (yn1 * 4294967296 + yn0) = Q at *
    have e : Q * (yn1 * 4294967296 + yn0) = (Q * yn1) * 4294967296 + Q * yn0 := by rw [Int.mul_add, ← Int.mul_assoc]
    have := Int.mul_nonneg hq0 hy0
    rw [e] at h2
    generalize Q * yn1 = s at *
    generalize Q * yn0 = t at *
    omega
  · have : u / yn1 < 4294967298 := by
      refine Int.ediv_lt_of_lt_mul (by omega) ?_
      omega
    omega
theorem two_digits {N U D1 D0 Y Q1 R1 Q0 R0 : Int} (hY : 0 < Y) (hN : N = (U * 4294967296 + D1) * 4294967296 + D0)
    (h1 : U * 4294967296 + D1 = Y * Q1 + R1) (h0 : R1 * 4294967296 + D0 = Y * Q0 + R0) (hr0 : 0 ≤ R0) (hr : R0 < Y) :
    N / Y = Q1 * 4294967296 + Q0 ∧ N % Y = R0 := by
  have e : N = R0 + Y * (Q1 * 4294967296 + Q0) := by
    have : Y * (Q1 * 4294967296 + Q0) = (Y * Q1) * 4294967296 + Y * Q0 := by rw [Int.mul_add, Int.mul_assoc]
    rw [this, hN]
    generalize Y * Q1 = s at *
    generalize Y * Q0 = t at *
    omega
  exact (Int.ediv_emod_unique hY).2 ⟨by rw [e], hr0, hr⟩
end Go.Proofs.Ytmagefemmhfkaaa.Q

namespace Go.Proofs.Ytmagefemmhfkaaa.Q
open Go Go.RowKit Go.Proofs.Ytmagefemmhfkaaa.PA Go.Proofs.YtmagefemmhfkaaaW.PrintWords Go.Proofs.YtmagefemmhfkaaaW.PrintLast Go.Proofs.YtmagefemmhfkaaaW.PrintMore
set_option linter.unusedVariables false
set_option linter.unusedSimpArgs false
theorem mul64_math {a b : Int} (ha0 : 0 ≤ a) (ha : a < 18446744073709551616) (hb0 : 0 ≤ b) (hb : b < 18446744073709551616) :
    ∃ p11 p10 p01 p00 : Int, p11 = (a / 4294967296) * (b / 4294967296) ∧ p10 = (a / 4294967296) * (b % 4294967296) ∧ p01 = (a % 4294967296) * (b / 4294967296) ∧ p00 = (a % 4294967296) * (b % 4294967296)
      ∧ (0 ≤ p11 ∧ p11 ≤ 18446744065119617025) ∧ (0 ≤ p10 ∧ p10 ≤ 18446744065119617025) ∧ (0 ≤ p01 ∧ p01 ≤ 18446744065119617025) ∧ (0 ≤ p00 ∧ p00 ≤ 18446744065119617025)
      ∧ a * b = p11 * 18446744073709551616 + (p10 + p01) * 4294967296 + p00 := by
  refine ⟨_, _, _, _, rfl, rfl, rfl, rfl, prodB (by omega) (by omega) (by omega) (by omega), prodB (by omega) (by omega) (by omega) (by omega), prodB (by omega) (by omega) (by omega) (by omega), prodB (by omega) (by omega) (by omega) (by omega), ?_⟩
  have ea : a = a / 4294967296 * 4294967296 + a % 4294967296 := by omega
  have eb : b = b / 4294967296 * 4294967296 + b % 4294967296 := by omega
  generalize a / 4294967296 = x1 at *
  generalize a % 4294967296 = x0 at *
  generalize b / 4294967296 = y1 at *
  generalize b % 4294967296 = y0 at *
  subst ea eb
  grind
theorem mul64_f (a b : Int) (ha0 : 0 ≤ a) (ha : a < 18446744073709551616) (hb0 : 0 ≤ b) (hb : b < 18446744073709551616) :
    bits_Mul64.f a b = some (a * b / 18446744073709551616, a * b % 18446744073709551616) := by
  obtain ⟨p11, p10, p01, p00, e11, e10, e01, e00, h11, h10, h01, h00, e⟩ := mul64_math ha0 ha hb0 hb
  unfold bits_Mul64.f
  rw [and32 ha0 ha, and32 hb0 hb, ← e11, ← e10, ← e01, ← e00, u64i (x := p11) (by omega) (by omega), u64i (x := p10) (by omega) (by omega), u64i (x := p01) (by omega) (by omega), u64i (x := p00) (by omega) (by omega)]
  rw [u64i (x := p10 + p00 / 4294967296) (by omega) (by omega), and32 (by omega) (by omega), u64w (a * b)]
  rw [u64i (x := (p10 + p00 / 4294967296) % 4294967296 + p01) (by omega) (by omega), u64w, u64w]
  congr 2
  omega
theorem times_f (a b : Int) (ha0 : 0 ≤ a) (ha : a < 18446744073709551616) (hb0 : 0 ≤ b) (hb : b < 18446744073709551616) :
    oculusref08_Times.f a b = some (a * b / 18446744073709551616, a * b % 18446744073709551616) := by
  obtain ⟨p11, p10, p01, p00, e11, e10, e01, e00, h11, h10, h01, h00, e⟩ := mul64_math ha0 ha hb0 hb
  unfold oculusref08_Times.f
  simp only [Int.tdiv_eq_ediv_of_nonneg ha0, Int.tdiv_eq_ediv_of_nonneg hb0, Int.tmod_eq_emod_of_nonneg ha0, Int.tmod_eq_emod_of_nonneg hb0]
  rw [u64i (x := a / 4294967296) (by omega) (by omega), u64i (x := b / 4294967296) (by omega) (by omega)]
  rw [← e11, ← e10, ← e01, ← e00, u64i (x := p11) (by omega) (by omega), u64i (x := p10) (by omega) (by omega), u64i (x := p01) (by omega) (by omega), u64i (x := p00) (by omega) (by omega)]
  rw [Int.tdiv_eq_ediv_of_nonneg h00.1, Int.tmod_eq_emod_of_nonneg h00.1, u64i (x := p00 / 4294967296) (by omega) (by omega)]
  rw [u64i (x := p10 + p00 / 4294967296) (by omega) (by omega), Int.tdiv_eq_ediv_of_nonneg (a := p10 + p00 / 4294967296) (by omega), Int.tmod_eq_emod_of_nonneg (a := p10 + p00 / 4294967296) (by omega)]
  rw [u64i (x := (p10 + p00 / 4294967296) / 4294967296) (by omega) (by omega)]
  rw [u64i (x := p01 + (p10 + p00 / 4294967296) % 4294967296) (by omega) (by omega), Int.tdiv_eq_ediv_of_nonneg (a := p01 + (p10 + p00 / 4294967296) % 4294967296) (by omega), Int.tmod_eq_emod_of_nonneg (a := p01 + (p10 + p00 / 4294967296) % 4294967296) (by omega)]
  simp only [u64w]
  congr 2
  · omega
  · omega
theorem size_f (x : Int) (h0 : -9223372036854775808 < x) (h1 : x ≤ 9223372036854775807) : dec_size.f x = some (x.natAbs : Int) := by
  unfold dec_size.f
  split
  · rw [w64 (by omega) (by omega), u64i (by omega) (by omega)]; congr 1; omega
  · rw [u64i (by omega) (by omega)]; congr 1; omega
theorem abs_f (x : Int) (h0 : -9223372036854775808 < x) (h1 : x ≤ 9223372036854775807) : oculusref08_Abs.f x = some (x.natAbs : Int) := by
  unfold oculusref08_Abs.f
  split
  · rw [w64 (by omega) (by omega), u64i (by omega) (by omega)]; congr 1; omega
  · rw [u64i (by omega) (by omega)]; congr 1; omega
end Go.Proofs.Ytmagefemmhfkaaa.Q

namespace Go.Proofs.Ytmagefemmhfkaaa.Q
open Go Go.RowKit Go.Proofs.Ytmagefemmhfkaaa.PA Go.Proofs.YtmagefemmhfkaaaW.PrintWords Go.Proofs.YtmagefemmhfkaaaW.PrintLast Go.Proofs.YtmagefemmhfkaaaW.PrintMore
set_option linter.unusedVariables false
set_option linter.unusedSimpArgs false
section
variable {y s yn1 yn0 u d e : Int} {r : Int × Int}
theorem div_l0 (hY1 : 2147483648 ≤ yn1) (hY1' : yn1 < 4294967296) (hy0 : 0 ≤ yn0) (hy0' : yn0 < 4294967296) (hu0 : 0 ≤ u) (hu : u < yn1 * 4294967296 + yn0) (hd0 : 0 ≤ d) (hd : d < 4294967296)
    (hj : Ev (fun k => bits_Div64.j2 k y s yn1 yn0 u d e ((u * 4294967296 + d) / (yn1 * 4294967296 + yn0))) r) (n : Nat) :
    ∀ q rh : Int, q - (u * 4294967296 + d) / (yn1 * 4294967296 + yn0) ≤ n → (u * 4294967296 + d) / (yn1 * 4294967296 + yn0) ≤ q → 0 ≤ q → q ≤ 4294967297 → rh = u - q * yn1 → 0 ≤ rh → rh < 4294967296 →
      Ev (fun k => bits_Div64.l0 k y s yn1 yn0 u d e q rh) r := by
  induction n with
  | zero =>
    intro q rh h1 h2 hq0 hq hr hr0 hrB
    have hn : ¬ (4294967296 ≤ q ∨ 4294967296 * rh + d < q * yn0) := fun hc => by
      have := digit_more (by omega) hy0 hd hu hr hc
      omega
    have hs := digit_stop (yn0 := yn0) (d := d) (by omega) hr (by omega)
    obtain rfl : q = (u * 4294967296 + d) / (yn1 * 4294967296 + yn0) := by omega
    have hp : 0 ≤ (u * 4294967296 + d) / (yn1 * 4294967296 + yn0) * yn0 := Int.mul_nonneg hq0 hy0
    refine Ev.step (fun k => by rw [bits_Div64.l0]) ?_
    refine Ev.neg (by omega) ?_
    rw [u64i (x := 4294967296 * rh) (by omega) (by omega), u64i (x := 4294967296 * rh + d) (by omega) (by omega), u64i (x := _ * yn0) hp (by omega), decide_eq_false (by omega)]
    refine Ev.step (fun k => by rw [bits_Div64.j1]) ?_
    exact Ev.neg (by decide) hj
  | succ n ih =>
    intro q rh h1 h2 hq0 hq hr hr0 hrB
    have hp : 0 ≤ q * yn0 := Int.mul_nonneg hq0 hy0
    have hp' : q * yn0 ≤ 4294967297 * 4294967295 := Int.mul_le_mul hq (by omega) hy0 (by decide)
    by_cases hn : 4294967296 ≤ q ∨ 4294967296 * rh + d < q * yn0
    · have hm := digit_more (by omega) hy0 hd hu hr hn
      have hq1 : 1 ≤ q := by
        rcases hn with h | h
        · omega
        · by_cases h0 : q = 0
          · subst h0; omega
          · omega
      have step : Ev (fun k => bits_Div64.j1 k y s yn1 yn0 u d e q rh true) r := by
        refine Ev.step (fun k => by rw [bits_Div64.j1]) ?_
        refine Ev.pos rfl ?_
        rw [u64i (x := rh + yn1) (by omega) (by omega), u64i (x := q - 1) (by omega) (by omega)]
        by_cases hb : rh + yn1 ≥ 4294967296
        · have := digit_break (by omega) hy0 hy0' hd0 hq1 hq hr hb
          obtain e' : q - 1 = (u * 4294967296 + d) / (yn1 * 4294967296 + yn0) := by omega
          refine Ev.pos hb ?_
          rw [e']; exact hj
        · refine Ev.neg hb ?_
          exact ih (q - 1) (rh + yn1) (by omega) hm (by omega) (by omega) (by rw [hr, Int.sub_mul, Int.one_mul]; omega) (by omega) (by omega)
      refine Ev.step (fun k => by rw [bits_Div64.l0]) ?_
      by_cases hB : q ≥ 4294967296
      · exact Ev.pos hB step
      · refine Ev.neg hB ?_
        rw [u64i (x := 4294967296 * rh) (by omega) (by omega), u64i (x := 4294967296 * rh + d) (by omega) (by omega), u64i (x := q * yn0) hp (by omega), decide_eq_true (by omega)]
        exact step
    · have hs := digit_stop (yn0 := yn0) (d := d) (by omega) hr (by omega)
      obtain e' : q = (u * 4294967296 + d) / (yn1 * 4294967296 + yn0) := by omega
      refine Ev.step (fun k => by rw [bits_Div64.l0]) ?_
      refine Ev.neg (by omega) ?_
      rw [u64i (x := 4294967296 * rh) (by omega) (by omega), u64i (x := 4294967296 * rh + d) (by omega) (by omega), u64i (x := q * yn0) hp (by omega), decide_eq_false (by omega)]
      refine Ev.step (fun k => by rw [bits_Div64.j1]) ?_
      refine Ev.neg (by decide) ?_
      rw [e']; exact hj
theorem div_l1 (t : Int) (hY1 : 2147483648 ≤ yn1) (hY1' : yn1 < 4294967296) (hy0 : 0 ≤ yn0) (hy0' : yn0 < 4294967296) (hu0 : 0 ≤ u) (hu : u < yn1 * 4294967296 + yn0) (hd0 : 0 ≤ d) (hd : d < 4294967296) (hs0 : 0 ≤ s) (n : Nat) :
    ∀ q rh : Int, q - (u * 4294967296 + d) / (yn1 * 4294967296 + yn0) ≤ n → (u * 4294967296 + d) / (yn1 * 4294967296 + yn0) ≤ q → 0 ≤ q → q ≤ 4294967297 → rh = u - q * yn1 → 0 ≤ rh → rh < 4294967296 →
      Ev (fun k => bits_Div64.l1 k y s yn1 yn0 d t rh u q) (IntKind.u64.wrap (IntKind.u64.wrap (t * 4294967296) + (u * 4294967296 + d) / (yn1 * 4294967296 + yn0)),
        shr .u64 (IntKind.u64.wrap (IntKind.u64.wrap (IntKind.u64.wrap (u * 4294967296) + d) - IntKind.u64.wrap ((u * 4294967296 + d) / (yn1 * 4294967296 + yn0) * y))) s) := by
  induction n with
  | zero =>
    intro q rh h1 h2 hq0 hq hr hr0 hrB
    have hn : ¬ (4294967296 ≤ q ∨ 4294967296 * rh + d < q * yn0) := fun hc => by
      have := digit_more (by omega) hy0 hd hu hr hc
      omega
    have hs := digit_stop (yn0 := yn0) (d := d) (by omega) hr (by omega)
    obtain rfl : q = (u * 4294967296 + d) / (yn1 * 4294967296 + yn0) := by omega
    have hp : 0 ≤ (u * 4294967296 + d) / (yn1 * 4294967296 + yn0) * yn0 := Int.mul_nonneg hq0 hy0
    refine Ev.step (fun k => by rw [bits_Div64.l1]) ?_
    refine Ev.neg (by omega) ?_
    rw [u64i (x := 4294967296 * rh) (by omega) (by omega), u64i (x := 4294967296 * rh + d) (by omega) (by omega), u64i (x := _ * yn0) hp (by omega), decide_eq_false (by omega)]
    refine Ev.step (fun k => by rw [bits_Div64.j4]) ?_
    exact Ev.neg (by decide) (Ev.pos hs0 (Ev.now _))
  | succ n ih =>
    intro q rh h1 h2 hq0 hq hr hr0 hrB
    have hp : 0 ≤ q * yn0 := Int.mul_nonneg hq0 hy0
    have hp' : q * yn0 ≤ 4294967297 * 4294967295 := Int.mul_le_mul hq (by omega) hy0 (by decide)
    by_cases hn : 4294967296 ≤ q ∨ 4294967296 * rh + d < q * yn0
    · have hm := digit_more (by omega) hy0 hd hu hr hn
      have hq1 : 1 ≤ q := by
        rcases hn with h | h
        · omega
        · by_cases h0 : q = 0
          · subst h0; omega
          · omega
      have step : Ev (fun k => bits_Div64.j4 k y s yn1 yn0 d t rh u q true) (IntKind.u64.wrap (IntKind.u64.wrap (t * 4294967296) + (u * 4294967296 + d) / (yn1 * 4294967296 + yn0)),
          shr .u64 (IntKind.u64.wrap (IntKind.u64.wrap (IntKind.u64.wrap (u * 4294967296) + d) - IntKind.u64.wrap ((u * 4294967296 + d) / (yn1 * 4294967296 + yn0) * y))) s) := by
        refine Ev.step (fun k => by rw [bits_Div64.j4]) ?_
        refine Ev.pos rfl ?_
        rw [u64i (x := rh + yn1) (by omega) (by omega), u64i (x := q - 1) (by omega) (by omega)]
        by_cases hb : rh + yn1 ≥ 4294967296
        · have := digit_break (by omega) hy0 hy0' hd0 hq1 hq hr hb
          obtain e' : q - 1 = (u * 4294967296 + d) / (yn1 * 4294967296 + yn0) := by omega
          refine Ev.pos hb (Ev.pos hs0 ?_)
          rw [e']; exact Ev.now _
        · refine Ev.neg hb ?_
          exact ih (q - 1) (rh + yn1) (by omega) hm (by omega) (by omega) (by rw [hr, Int.sub_mul, Int.one_mul]; omega) (by omega) (by omega)
      refine Ev.step (fun k => by rw [bits_Div64.l1]) ?_
      by_cases hB : q ≥ 4294967296
      · exact Ev.pos hB step
      · refine Ev.neg hB ?_
        rw [u64i (x := 4294967296 * rh) (by omega) (by omega), u64i (x := 4294967296 * rh + d) (by omega) (by omega), u64i (x := q * yn0) hp (by omega), decide_eq_true (by omega)]
        exact step
    · have hs := digit_stop (yn0 := yn0) (d := d) (by omega) hr (by omega)
      obtain e' : q = (u * 4294967296 + d) / (yn1 * 4294967296 + yn0) := by omega
      refine Ev.step (fun k => by rw [bits_Div64.l1]) ?_
      refine Ev.neg (by omega) ?_
      rw [u64i (x := 4294967296 * rh) (by omega) (by omega), u64i (x := 4294967296 * rh + d) (by omega) (by omega), u64i (x := q * yn0) hp (by omega), decide_eq_false (by omega)]
      refine Ev.step (fun k => by rw [bits_Div64.j4]) ?_
      refine Ev.neg (by decide) (Ev.pos hs0 ?_)
      rw [e']; exact Ev.now _
end
end Go.Proofs.Ytmagefemmhfkaaa.Q

namespace Go.Proofs.Ytmagefemmhfkaaa.Q
open Go Go.RowKit Go.Proofs.Ytmagefemmhfkaaa.PA Go.Proofs.YtmagefemmhfkaaaW.PrintWords Go.Proofs.YtmagefemmhfkaaaW.PrintLast Go.Proofs.YtmagefemmhfkaaaW.PrintMore
set_option linter.unusedVariables false
set_option linter.unusedSimpArgs false
theorem len8 (T : ByteArray) (hT : ∀ i : Fin 256, bt T (i.val : Int) = if i.val = 0 then 0 else (Nat.log2 i.val : Int) + 1) {x : Int} (h0 : 0 < x) (h1 : x < 256) :
    0 < bt T x ∧ bt T x ≤ 8 ∧ 2 ^ (bt T x - 1).toNat ≤ x ∧ x < 2 ^ (bt T x).toNat := by
  obtain ⟨n, rfl⟩ := Int.eq_ofNat_of_zero_le (Int.le_of_lt h0)
  have hn : n < 256 := by omega
  have hn0 : n ≠ 0 := by omega
  have h := hT ⟨n, hn⟩
  dsimp only at h
  rw [if_neg hn0] at h
  rw [h]
  have h8 : Nat.log2 n < 8 := (Nat.log2_lt hn0).2 (by omega)
  have a := Nat.log2_self_le hn0
  have b := @Nat.lt_log2_self n
  refine ⟨by omega, by omega, ?_, ?_⟩
  · rw [show ((Nat.log2 n : Int) + 1 - 1).toNat = Nat.log2 n by omega]; exact_mod_cast a
  · rw [show ((Nat.log2 n : Int) + 1).toNat = Nat.log2 n + 1 by omega]; exact_mod_cast b
def lenT : ByteArray := ⟨#[0, 1, 2, 2, 3, 3, 3, 3, 4, 4, 4, 4, 4, 4, 4, 4, 5, 5, 5, 5, 5, 5, 5, 5, 5, 5, 5, 5, 5, 5, 5, 5, 6, 6, 6, 6, 6, 6, 6, 6, 6, 6, 6, 6, 6, 6, 6, 6, 6, 6, 6, 6, 6, 6, 6, 6, 6, 6, 6, 6, 6, 6, 6, 6, 7, 7, 7, 7, 7, 7, 7, 7, 7, 7, 7, 7, 7, 7, 7, 7, 7, 7, 7, 7, 7, 7, 7, 7, 7, 7, 7, 7, 7, 7, 7, 7, 7, 7, 7, 7, 7, 7, 7, 7, 7, 7, 7, 7, 7, 7, 7, 7, 7, 7, 7, 7, 7, 7, 7, 7, 7, 7, 7, 7, 7, 7, 7, 7, 8, 8, 8, 8, 8, 8, 8, 8, 8, 8, 8, 8, 8, 8, 8, 8, 8, 8, 8, 8, 8, 8, 8, 8, 8, 8, 8, 8, 8, 8, 8, 8, 8, 8, 8, 8, 8, 8, 8, 8, 8, 8, 8, 8, 8, 8, 8, 8, 8, 8, 8, 8, 8, 8, 8, 8, 8, 8, 8, 8, 8, 8, 8, 8, 8, 8, 8, 8, 8, 8, 8, 8, 8, 8, 8, 8, 8, 8, 8, 8, 8, 8, 8, 8, 8, 8, 8, 8, 8, 8, 8, 8, 8, 8, 8, 8, 8, 8, 8, 8, 8, 8, 8, 8, 8, 8, 8, 8, 8, 8, 8, 8, 8, 8, 8, 8, 8, 8, 8, 8, 8, 8, 8, 8, 8, 8, 8, 8]⟩
theorem lenT_ok : ∀ i : Fin 256, bt lenT (i.val : Int) = if i.val = 0 then 0 else (Nat.log2 i.val : Int) + 1 := by decide +kernel
theorem len_body (k : Nat) (x0 x2 : Int) : bits_Len64.j0 (k + 1) x0 x2 = (if x0 ≥ 65536 then (if (x0 / 65536) ≥ 256 then (if 0 ≤ (((x0 / 65536) / 256) % 256) then (if (((x0 / 65536) / 256) % 256) < 256 then (some (wrap64 ((wrap64 ((wrap64 (x2 + 16)) + 8)) + (wrap64 (bt lenT (((x0 / 65536) / 256) % 256)))))) else (none)) else (none)) else (if 0 ≤ ((x0 / 65536) % 256) then (if ((x0 / 65536) % 256) < 256 then (some (wrap64 ((wrap64 (x2 + 16)) + (wrap64 (bt lenT ((x0 / 65536) % 256)))))) else (none)) else (none))) else (if x0 ≥ 256 then (if 0 ≤ ((x0 / 256) % 256) then (if ((x0 / 256) % 256) < 256 then (some (wrap64 ((wrap64 (x2 + 8)) + (wrap64 (bt lenT ((x0 / 256) % 256)))))) else (none)) else (none)) else (if 0 ≤ ((x0) % 256) then (if ((x0) % 256) < 256 then (some (wrap64 (x2 + (wrap64 (bt lenT ((x0) % 256)))))) else (none)) else (none)))) := rfl
theorem pow_shift {t : Int} (ht : 0 ≤ t) (c : Nat) : (2 : Int) ^ (t + c).toNat = 2 ^ t.toNat * 2 ^ c := by
  rw [show (t + c).toNat = t.toNat + c by omega, Int.pow_add]
theorem len_shift {x t : Int} (c : Nat) (ht : 0 < t) (h0 : 2 ^ (t - 1).toNat ≤ x / 2 ^ c) (h1 : x / 2 ^ c < 2 ^ t.toNat) : 2 ^ (t + c - 1).toNat ≤ x ∧ x < 2 ^ (t + c).toNat := by
  have hc : (0 : Int) < 2 ^ c := Int.pow_pos (by decide)
  rw [show t + c - 1 = (t - 1) + c by omega, pow_shift (by omega), pow_shift (by omega)]
  exact ⟨(Int.le_ediv_iff_mul_le hc).1 h0, (Int.ediv_lt_iff_lt_mul hc).1 h1⟩
theorem len_j0 {x b : Int} (h0 : 0 < x) (h1 : x < 4294967296) (hb0 : 0 ≤ b) (hb : b ≤ 32) :
    ∃ n, Ev (fun k => bits_Len64.j0 k x b) (b + n) ∧ 0 < n ∧ n ≤ 32 ∧ 2 ^ (n - 1).toNat ≤ x ∧ x < 2 ^ n.toNat := by
  by_cases c1 : x ≥ 65536
  · by_cases c2 : x / 65536 ≥ 256
    · obtain ⟨a1, a2, a3, a4⟩ := len8 lenT lenT_ok (x := x / 65536 / 256 % 256) (by omega) (by omega)
      rw [show x / 65536 / 256 % 256 = x / 2 ^ 24 by simp; omega] at *
      obtain ⟨d1, d2⟩ := len_shift 24 a1 a3 a4
      refine ⟨bt lenT (x / 2 ^ 24) + 24, Ev.step (fun k => by rw [len_body]) (Ev.pos c1 (Ev.pos c2 ?_)), by omega, by omega, d1, d2⟩
      rw [show x / 65536 / 256 % 256 = x / 2 ^ 24 by simp; omega]
      refine Ev.pos (by simp; omega) (Ev.pos (by simp; omega) ?_)
      rw [w64 (x := bt lenT (x / 2 ^ 24)) (by omega) (by omega), w64 (x := b + 16) (by omega) (by omega), w64 (x := b + 16 + 8) (by omega) (by omega), w64 (by omega) (by omega)]
      rw [show b + 16 + 8 + bt lenT (x / 2 ^ 24) = b + (bt lenT (x / 2 ^ 24) + 24) by omega]; exact Ev.now _
    · obtain ⟨a1, a2, a3, a4⟩ := len8 lenT lenT_ok (x := x / 65536 % 256) (by omega) (by omega)
      rw [show x / 65536 % 256 = x / 2 ^ 16 by simp; omega] at *
      obtain ⟨d1, d2⟩ := len_shift 16 a1 a3 a4
      refine ⟨bt lenT (x / 2 ^ 16) + 16, Ev.step (fun k => by rw [len_body]) (Ev.pos c1 (Ev.neg c2 ?_)), by omega, by omega, d1, d2⟩
      rw [show x / 65536 % 256 = x / 2 ^ 16 by simp; omega]
      refine Ev.pos (by simp; omega) (Ev.pos (by simp; omega) ?_)
      rw [w64 (x := bt lenT (x / 2 ^ 16)) (by omega) (by omega), w64 (x := b + 16) (by omega) (by omega), w64 (by omega) (by omega)]
      rw [show b + 16 + bt lenT (x / 2 ^ 16) = b + (bt lenT (x / 2 ^ 16) + 16) by omega]; exact Ev.now _
  · by_cases c2 : x ≥ 256
    · obtain ⟨a1, a2, a3, a4⟩ := len8 lenT lenT_ok (x := x / 256 % 256) (by omega) (by omega)
      rw [show x / 256 % 256 = x / 2 ^ 8 by simp; omega] at *
      obtain ⟨d1, d2⟩ := len_shift 8 a1 a3 a4
      refine ⟨bt lenT (x / 2 ^ 8) + 8, Ev.step (fun k => by rw [len_body]) (Ev.neg c1 (Ev.pos c2 ?_)), by omega, by omega, d1, d2⟩
      rw [show x / 256 % 256 = x / 2 ^ 8 by simp; omega]
      refine Ev.pos (by simp; omega) (Ev.pos (by simp; omega) ?_)
      rw [w64 (x := bt lenT (x / 2 ^ 8)) (by omega) (by omega), w64 (x := b + 8) (by omega) (by omega), w64 (by omega) (by omega)]
      rw [show b + 8 + bt lenT (x / 2 ^ 8) = b + (bt lenT (x / 2 ^ 8) + 8) by omega]; exact Ev.now _
    · obtain ⟨a1, a2, a3, a4⟩ := len8 lenT lenT_ok (x := x % 256) (by omega) (by omega)
      rw [show x % 256 = x by omega] at *
      refine ⟨bt lenT x, Ev.step (fun k => by rw [len_body]) (Ev.neg c1 (Ev.neg c2 ?_)), by omega, by omega, a3, a4⟩
      rw [show x % 256 = x by omega]
      refine Ev.pos (by omega) (Ev.pos (by omega) ?_)
      rw [w64 (x := bt lenT x) (by omega) (by omega), w64 (by omega) (by omega)]
      exact Ev.now _
theorem len_f {x : Int} (h0 : 0 < x) (h1 : x < 18446744073709551616) : ∃ n, Ev (fun k => bits_Len64.f k x) n ∧ 0 < n ∧ n ≤ 64 ∧ 2 ^ (n - 1).toNat ≤ x ∧ x < 2 ^ n.toNat := by
  by_cases c : x ≥ 4294967296
  · obtain ⟨n, hn, a1, a2, a3, a4⟩ := len_j0 (x := x / 4294967296) (b := 32) (by omega) (by omega) (by omega) (by omega)
    obtain ⟨d1, d2⟩ := len_shift (x := x) 32 a1 (by simpa using a3) (by simpa using a4)
    exact ⟨n + 32, Ev.congr (fun k => by rw [bits_Len64.f]) (Ev.pos c (by rw [Int.add_comm]; exact hn)), by omega, by omega, d1, d2⟩
  · obtain ⟨n, hn, a1, a2, a3, a4⟩ := len_j0 (x := x) (b := 0) (by omega) (by omega) (by omega) (by omega)
    rw [Int.zero_add] at hn
    exact ⟨n, Ev.congr (fun k => by rw [bits_Len64.f]) (Ev.neg c hn), by omega, by omega, a3, a4⟩
theorem lead_f {y : Int} (h0 : 0 < y) (h1 : y < 18446744073709551616) : ∃ s : Int, Ev (fun k => bits_LeadingZeros64.f k y) s ∧ 0 ≤ s ∧ s ≤ 63 ∧ 9223372036854775808 ≤ y * 2 ^ s.toNat ∧ y * 2 ^ s.toNat < 18446744073709551616 := by
  obtain ⟨n, hn, a1, a2, a3, a4⟩ := len_f h0 h1
  refine ⟨64 - n, Ev.congr (fun k => by rw [bits_LeadingZeros64.f]) (Ev.bind hn ?_), by omega, by omega, ?_, ?_⟩
  · rw [w64 (by omega) (by omega)]; exact Ev.now _
  · have e : (2 : Int) ^ (n - 1).toNat * 2 ^ (64 - n).toNat = 9223372036854775808 := by
      rw [← Int.pow_add, show (n - 1).toNat + (64 - n).toNat = 63 by omega]; decide
    have := Int.mul_le_mul_of_nonneg_right a3 (c := 2 ^ (64 - n).toNat) (Int.le_of_lt (Int.pow_pos (by decide)))
    omega
  · have e : (2 : Int) ^ n.toNat * 2 ^ (64 - n).toNat = 18446744073709551616 := by
      rw [← Int.pow_add, show n.toNat + (64 - n).toNat = 64 by omega]; decide
    have := Int.mul_lt_mul_of_pos_right a4 (c := 2 ^ (64 - n).toNat) (Int.pow_pos (by decide))
    omega
end Go.Proofs.Ytmagefemmhfkaaa.Q

namespace Go.Proofs.Ytmagefemmhfkaaa.Q
open Go Go.RowKit Go.Proofs.Ytmagefemmhfkaaa.PA Go.Proofs.YtmagefemmhfkaaaW.PrintWords Go.Proofs.YtmagefemmhfkaaaW.PrintLast Go.Proofs.YtmagefemmhfkaaaW.PrintMore
set_option linter.unusedVariables false
set_option linter.unusedSimpArgs false
theorem div_j2 {Y s u d e : Int} (hY : 9223372036854775808 ≤ Y) (hY' : Y < 18446744073709551616) (hs0 : 0 ≤ s) (hu0 : 0 ≤ u) (hu : u < Y) (hd0 : 0 ≤ d) (hd : d < 4294967296) (he0 : 0 ≤ e) (he : e < 4294967296) :
    Ev (fun k => bits_Div64.j2 k Y s (Y / 4294967296) (Y % 4294967296) u d e ((u * 4294967296 + d) / Y))
      (((u * 4294967296 + d) * 4294967296 + e) / Y, ((u * 4294967296 + d) * 4294967296 + e) % Y / 2 ^ min s.toNat 64) := by
  have hY0 : 0 < Y := by omega
  have hYe : Y / 4294967296 * 4294967296 + Y % 4294967296 = Y := by omega
  have hm := Int.mul_ediv_add_emod (u * 4294967296 + d) Y
  have hr0 := Int.emod_nonneg (u * 4294967296 + d) (b := Y) (by omega)
  have hr1 := Int.emod_lt_of_pos (u * 4294967296 + d) hY0
  have hq0 : 0 ≤ (u * 4294967296 + d) / Y := Int.ediv_nonneg (by omega) (by omega)
  have hq1 : (u * 4294967296 + d) / Y < 4294967296 := Int.ediv_lt_of_lt_mul hY0 (by omega)
  generalize hQ1 : (u * 4294967296 + d) / Y = Q1 at *
  generalize hR1 : (u * 4294967296 + d) % Y = R1 at *
  have hm2 := Int.mul_ediv_add_emod (R1 * 4294967296 + e) Y
  have hs0' := Int.emod_nonneg (R1 * 4294967296 + e) (b := Y) (by omega)
  have hs1' := Int.emod_lt_of_pos (R1 * 4294967296 + e) hY0
  have hp0 : 0 ≤ (R1 * 4294967296 + e) / Y := Int.ediv_nonneg (by omega) (by omega)
  have hp1 : (R1 * 4294967296 + e) / Y < 4294967296 := Int.ediv_lt_of_lt_mul hY0 (by omega)
  obtain ⟨f1, f2⟩ := two_digits (N := (u * 4294967296 + d) * 4294967296 + e) (U := u) (D1 := d) (D0 := e) (Y := Y) (Q1 := Q1) (R1 := R1) hY0 rfl hm.symm hm2.symm hs0' hs1'
  have un21 : IntKind.u64.wrap (IntKind.u64.wrap (IntKind.u64.wrap (u * 4294967296) + d) - IntKind.u64.wrap (Q1 * Y)) = R1 := by
    rw [Int.mul_comm Q1 Y]; simp only [u64w]; omega
  obtain ⟨g1, g2, g3, g4, g5⟩ := digit_guess (u := R1) (d := e) (yn1 := Y / 4294967296) (yn0 := Y % 4294967296) (by omega) (by omega) (by omega) hr0 he0 he (by omega)
  refine Ev.step (fun k => by rw [bits_Div64.j2]) (Ev.neg (by omega) ?_)
  rw [un21, Int.tdiv_eq_ediv_of_nonneg hr0, u64i (x := R1 / (Y / 4294967296)) g2 (by omega)]
  rw [u64i (x := R1 / (Y / 4294967296) * (Y / 4294967296)) (Int.mul_nonneg g2 (by omega)) (by omega), u64i (x := R1 - _) g4 (by omega)]
  have h := div_l1 (y := Y) (s := s) (yn1 := Y / 4294967296) (yn0 := Y % 4294967296) (u := R1) (d := e) Q1 (by omega) (by omega) (by omega) (by omega) hr0 (by omega) he0 he hs0
    (R1 / (Y / 4294967296) - (R1 * 4294967296 + e) / (Y / 4294967296 * 4294967296 + Y % 4294967296)).toNat (R1 / (Y / 4294967296)) (R1 - R1 / (Y / 4294967296) * (Y / 4294967296)) (by omega) g1 g2 g3 rfl g4 (by omega)
  rw [hYe] at h
  rw [f1, f2]
  have e1 : IntKind.u64.wrap (IntKind.u64.wrap (Q1 * 4294967296) + (R1 * 4294967296 + e) / Y) = Q1 * 4294967296 + (R1 * 4294967296 + e) / Y := by
    rw [u64i (x := Q1 * 4294967296) (by omega) (by omega), u64i (by omega) (by omega)]
  have e2 : IntKind.u64.wrap (IntKind.u64.wrap (IntKind.u64.wrap (R1 * 4294967296) + e) - IntKind.u64.wrap ((R1 * 4294967296 + e) / Y * Y)) = (R1 * 4294967296 + e) % Y := by
    rw [Int.mul_comm _ Y]; simp only [u64w]; omega
  rw [e1, e2] at h
  exact h
theorem div64_ev {hi lo y : Int} (hy : 0 < y) (hy' : y < 18446744073709551616) (h0 : 0 ≤ hi) (h1 : hi < y) (l0 : 0 ≤ lo) (l1 : lo < 18446744073709551616) :
    Ev (fun k => bits_Div64.f k hi lo y) ((hi * 18446744073709551616 + lo) / y, (hi * 18446744073709551616 + lo) % y) := by
  refine Ev.congr (fun k => by rw [bits_Div64.f]) (Ev.neg (by omega) (Ev.neg (by omega) ?_))
  by_cases hz : hi = 0
  · subst hz
    refine Ev.pos rfl ?_
    rw [Int.tdiv_eq_ediv_of_nonneg l0, Int.tmod_eq_emod_of_nonneg l0, Int.zero_mul, Int.zero_add]
    have a := Int.ediv_nonneg l0 (Int.le_of_lt hy)
    have b : lo / y ≤ lo := Int.ediv_le_self _ l0
    rw [u64i a (by omega)]
    exact Ev.now _
  · obtain ⟨s, hs, hs0, hs63, hp0, hp1⟩ := lead_f hy hy'
    refine Ev.neg hz (Ev.bind hs ?_)
    have es : IntKind.u64.wrap s = s := u64i hs0 (by omega)
    have es' : IntKind.u64.wrap (64 - s) = 64 - s := u64i (by omega) (by omega)
    have hpp : (2 : Int) ^ s.toNat * 2 ^ (64 - s).toNat = 18446744073709551616 := by
      rw [← Int.pow_add, show s.toNat + (64 - s).toNat = 64 by omega]; decide
    have hpp0 : (0 : Int) < 2 ^ s.toNat := Int.pow_pos (by decide)
    have hpp1 : (0 : Int) < 2 ^ (64 - s).toNat := Int.pow_pos (by decide)
    have hmin : min s.toNat 64 = s.toNat := Nat.min_eq_left (by omega)
    have eY : shl .u64 y s = y * 2 ^ s.toNat := by
      unfold shl; rw [show IntKind.bits .u64 = 64 from rfl, hmin, u64i (by omega) hp1]
    have hhp : (hi + 1) * 2 ^ s.toNat ≤ y * 2 ^ s.toNat := Int.mul_le_mul_of_nonneg_right (by omega) (Int.le_of_lt hpp0)
    rw [Int.add_mul, Int.one_mul] at hhp
    have hhp0 : 0 ≤ hi * 2 ^ s.toNat := Int.mul_nonneg h0 (Int.le_of_lt hpp0)
    have eH : shl .u64 hi s = hi * 2 ^ s.toNat := by
      unfold shl; rw [show IntKind.bits .u64 = 64 from rfl, hmin, u64i hhp0 (by omega)]
    have eL : shl .u64 lo s = lo * 2 ^ s.toNat % 18446744073709551616 := by
      unfold shl; rw [show IntKind.bits .u64 = 64 from rfl, hmin, u64w]
    have eR : shr .u64 lo (64 - s) = lo / 2 ^ (64 - s).toNat := by
      unfold shr; rw [show IntKind.bits .u64 = 64 from rfl, Nat.min_eq_left (by omega)]
    have hlo0 : 0 ≤ lo / 2 ^ (64 - s).toNat := Int.ediv_nonneg l0 (Int.le_of_lt hpp1)
    have hlo1 : lo / 2 ^ (64 - s).toNat < 2 ^ s.toNat := Int.ediv_lt_of_lt_mul hpp1 (by rw [hpp]; exact l1)
    have hps : (2 : Int) ^ s.toNat ≤ 9223372036854775808 := by
      have : (2 : Int) ^ s.toNat ≤ 2 ^ 63 := by
        have h := Nat.pow_le_pow_right (n := 2) (by decide) (show s.toNat ≤ 63 by omega)
        exact_mod_cast h
      simpa using this
    have eU : Go.bits .or .u64 (hi * 2 ^ s.toNat) (lo / 2 ^ (64 - s).toNat) = hi * 2 ^ s.toNat + lo / 2 ^ (64 - s).toNat :=
      bits_join .u64 64 (by decide) (fun n a b => u64i a (by simpa using b)) s.toNat _ _ hhp0 (Int.mul_emod_left ..) (by show _ < (18446744073709551616 : Int); omega) hlo0 hlo1 (by show _ < (18446744073709551616 : Int); omega)
    simp only [es, es', eY, eH, eL, eR, eU]
    generalize hYd : y * 2 ^ s.toNat = Y at *
    have hloe : lo * 2 ^ s.toNat = lo / 2 ^ (64 - s).toNat * 18446744073709551616 + lo * 2 ^ s.toNat % 18446744073709551616 := by
      have d := Int.mul_ediv_add_emod lo (2 ^ (64 - s).toNat)
      have m0 := Int.emod_nonneg lo (b := 2 ^ (64 - s).toNat) (by omega)
      have m1 := Int.emod_lt_of_pos lo hpp1
      have ee : lo * 2 ^ s.toNat = lo / 2 ^ (64 - s).toNat * 18446744073709551616 + lo % 2 ^ (64 - s).toNat * 2 ^ s.toNat := by
        have : (2 ^ (64 - s).toNat * (lo / 2 ^ (64 - s).toNat) + lo % 2 ^ (64 - s).toNat) * 2 ^ s.toNat = lo * 2 ^ s.toNat := by rw [d]
        rw [← this, Int.add_mul, Int.mul_comm (2 ^ (64 - s).toNat) _, Int.mul_assoc, Int.mul_comm (2 ^ (64 - s).toNat) _, hpp]
      have m2 : 0 ≤ lo % 2 ^ (64 - s).toNat * 2 ^ s.toNat := Int.mul_nonneg m0 (Int.le_of_lt hpp0)
      have m3 : lo % 2 ^ (64 - s).toNat * 2 ^ s.toNat < 18446744073709551616 := by
        have := Int.mul_lt_mul_of_pos_right m1 hpp0
        rw [Int.mul_comm (2 ^ (64 - s).toNat) _, hpp] at this
        exact this
      omega
    have hU1 : hi * 2 ^ s.toNat + lo / 2 ^ (64 - s).toNat < Y := by omega
    generalize hUd : hi * 2 ^ s.toNat + lo / 2 ^ (64 - s).toNat = U at *
    have hU0 : 0 ≤ U := by omega
    have a0 : 0 ≤ lo * 2 ^ s.toNat % 18446744073709551616 := Int.emod_nonneg _ (by decide)
    have a1 : lo * 2 ^ s.toNat % 18446744073709551616 < 18446744073709551616 := Int.emod_lt_of_pos _ (by decide)
    generalize hun : lo * 2 ^ s.toNat % 18446744073709551616 = un10 at *
    refine Ev.pos hs0 (Ev.pos (by omega) (Ev.neg (by omega) ?_))
    rw [and32 (by omega) hp1, and32 a0 a1, Int.tdiv_eq_ediv_of_nonneg hU0]
    obtain ⟨g1, g2, g3, g4, g5⟩ := digit_guess (u := U) (d := un10 / 4294967296) (yn1 := Y / 4294967296) (yn0 := Y % 4294967296) (by omega) (by omega) (by omega) hU0 (by omega) (by omega) (by omega)
    rw [u64i (x := U / (Y / 4294967296)) g2 (by omega), u64i (x := U / (Y / 4294967296) * (Y / 4294967296)) (Int.mul_nonneg g2 (by omega)) (by omega), u64i (x := U - _) g4 (by omega)]
    have hYe : Y / 4294967296 * 4294967296 + Y % 4294967296 = Y := by omega
    have j := div_j2 (Y := Y) (s := s) (u := U) (d := un10 / 4294967296) (e := un10 % 4294967296) hp0 hp1 hs0 hU0 hU1 (by omega) (by omega) (by omega) (by omega)
    have hN : (U * 4294967296 + un10 / 4294967296) * 4294967296 + un10 % 4294967296 = (hi * 18446744073709551616 + lo) * 2 ^ s.toNat := by
      rw [Int.add_mul (hi * 18446744073709551616) lo, hloe, Int.mul_right_comm hi]
      generalize hi * 2 ^ s.toNat = z at *
      omega
    rw [hN, hmin] at j
    have e1 : (hi * 18446744073709551616 + lo) * 2 ^ s.toNat / Y = (hi * 18446744073709551616 + lo) / y := by rw [← hYd, Int.mul_ediv_mul_of_pos_left _ _ hpp0]
    have e2 : (hi * 18446744073709551616 + lo) * 2 ^ s.toNat % Y = 2 ^ s.toNat * ((hi * 18446744073709551616 + lo) % y) := by rw [← hYd, Int.mul_comm _ (2 ^ s.toNat), Int.mul_comm y, Int.mul_emod_mul_of_pos _ _ hpp0]
    rw [e1, e2, Int.mul_ediv_cancel_left _ (by omega)] at j
    refine div_l0 (by omega) (by omega) (by omega) (by omega) hU0 (by omega) (by omega) (by omega) (by rw [hYe]; exact j) (U / (Y / 4294967296) - (U * 4294967296 + un10 / 4294967296) / (Y / 4294967296 * 4294967296 + Y % 4294967296)).toNat (U / (Y / 4294967296)) (U - U / (Y / 4294967296) * (Y / 4294967296)) (by omega) g1 g2 g3 rfl g4 (by omega)
end Go.Proofs.Ytmagefemmhfkaaa.Q

namespace Go.Proofs.Ytmagefemmhfkaaa.Q
open Go Go.RowKit Go.Proofs.Ytmagefemmhfkaaa.PA Go.Proofs.YtmagefemmhfkaaaW.PrintWords Go.Proofs.YtmagefemmhfkaaaW.PrintLast Go.Proofs.YtmagefemmhfkaaaW.PrintMore
set_option linter.unusedVariables false
set_option linter.unusedSimpArgs false
def May (x : Int) : Prop := -9223372036854775808 < x ∧ x ≤ 9223372036854775807
instance (x : Int) : Decidable (May x) := by unfold May; infer_instance
theorem may_f {x : Int} (h0 : -9223372036854775808 ≤ x) (h1 : x ≤ 9223372036854775807) : dec_May.f x = some (decide (May x)) := by
  unfold dec_May.f
  congr 1
  rw [Bool.eq_iff_iff, bne_iff_ne, decide_eq_true_iff]
  unfold May; omega
theorem rmay_f {x : Int} (h0 : -9223372036854775808 ≤ x) (h1 : x ≤ 9223372036854775807) : oculusref08_May.f x = some (decide (May x)) := by
  unfold oculusref08_May.f May
  congr 2
  apply propext; omega
def sg (a b c q : Int) : Int := if ((decide (a < 0) != decide (b < 0)) != decide (c < 0)) = true then -q else q
theorem sign_f (x : Int) : dec_Sign.f x = some (if x < 0 then -1 else if x > 0 then 1 else 0) := by
  unfold dec_Sign.f
  split
  · rfl
  · split <;> rfl
def upP (n m : Int) : Int := if m - n % m ≤ n % m then (n / m + 1) % 18446744073709551616 else n / m
def scaledP (a b c : Int) : Int × Bool :=
  if May a ∧ May b ∧ May c ∧ c ≠ 0 then
    (if a.natAbs * b.natAbs / 18446744073709551616 ≥ (c.natAbs : Int) then (0, false)
     else if upP (a.natAbs * b.natAbs) c.natAbs > 9223372036854775807 then (0, false) else (sg a b c (upP (a.natAbs * b.natAbs) c.natAbs), true))
  else (0, false)
def upR (n m : Int) : Int := if m - n % m ≤ n % m then n / m + 1 else n / m
def scaledR (a b c : Int) : Int × Bool :=
  if May a ∧ May b ∧ May c ∧ c ≠ 0 then
    (if (a.natAbs * b.natAbs : Int) / c.natAbs > 9223372036854775807 then (0, false)
     else if upR (a.natAbs * b.natAbs) c.natAbs > 9223372036854775807 then (0, false) else (sg a b c (upR (a.natAbs * b.natAbs) c.natAbs), true))
  else (0, false)
theorem scaled_j1 {a b c q : Int} (hc : c ≠ 0) (h0 : 0 ≤ q) (h1 : q ≤ 9223372036854775807) (hz : a = 0 ∨ b = 0 → q = 0) : Ev (fun k => dec_Scaled.j1 k a b c q) (sg a b c q, true) := by
  refine Ev.step (fun k => by rw [dec_Scaled.j1]) ?_
  refine Ev.neg (by omega) ?_
  simp only [sign_f, Option.bind_some]
  rw [w64 (x := q) (by omega) (by omega), w64 (x := -q) (by omega) (by omega)]
  unfold sg
  rcases Int.lt_trichotomy a 0 with ha | ha | ha
  · rcases Int.lt_trichotomy b 0 with hb | hb | hb
    · rcases Int.lt_trichotomy c 0 with h | h | h
      · simp only [if_pos ha, if_pos hb, if_pos h, decide_eq_true ha, decide_eq_true hb, decide_eq_true h]; exact ⟨0, fun _ _ => by simp [wrap64]⟩
      · omega
      · simp only [if_pos ha, if_pos hb, if_neg (show ¬ c < 0 by omega), if_pos (show c > 0 from h), decide_eq_true ha, decide_eq_true hb, decide_eq_false (show ¬ c < 0 by omega)]; exact ⟨0, fun _ _ => by simp [wrap64]⟩
    · obtain rfl := hz (.inr hb); simp only [Int.neg_zero, ite_self]; exact ⟨0, fun _ _ => by simp [wrap64]⟩
    · rcases Int.lt_trichotomy c 0 with h | h | h
      · simp only [if_pos ha, if_neg (show ¬ b < 0 by omega), if_pos (show b > 0 from hb), if_pos h, decide_eq_true ha, decide_eq_false (show ¬ b < 0 by omega), decide_eq_true h]; exact ⟨0, fun _ _ => by simp [wrap64]⟩
      · omega
      · simp only [if_pos ha, if_neg (show ¬ b < 0 by omega), if_pos (show b > 0 from hb), if_neg (show ¬ c < 0 by omega), if_pos (show c > 0 from h), decide_eq_true ha, decide_eq_false (show ¬ b < 0 by omega), decide_eq_false (show ¬ c < 0 by omega)]; exact ⟨0, fun _ _ => by simp [wrap64]⟩
  · obtain rfl := hz (.inl ha); simp only [Int.neg_zero, ite_self]; exact ⟨0, fun _ _ => by simp [wrap64]⟩
  · rcases Int.lt_trichotomy b 0 with hb | hb | hb
    · rcases Int.lt_trichotomy c 0 with h | h | h
      · simp only [if_neg (show ¬ a < 0 by omega), if_pos (show a > 0 from ha), if_pos hb, if_pos h, decide_eq_false (show ¬ a < 0 by omega), decide_eq_true hb, decide_eq_true h]; exact ⟨0, fun _ _ => by simp [wrap64]⟩
      · omega
      · simp only [if_neg (show ¬ a < 0 by omega), if_pos (show a > 0 from ha), if_pos hb, if_neg (show ¬ c < 0 by omega), if_pos (show c > 0 from h), decide_eq_false (show ¬ a < 0 by omega), decide_eq_true hb, decide_eq_false (show ¬ c < 0 by omega)]; exact ⟨0, fun _ _ => by simp [wrap64]⟩
    · obtain rfl := hz (.inr hb); simp only [Int.neg_zero, ite_self]; exact ⟨0, fun _ _ => by simp [wrap64]⟩
    · rcases Int.lt_trichotomy c 0 with h | h | h
      · simp only [if_neg (show ¬ a < 0 by omega), if_pos (show a > 0 from ha), if_neg (show ¬ b < 0 by omega), if_pos (show b > 0 from hb), if_pos h, decide_eq_false (show ¬ a < 0 by omega), decide_eq_false (show ¬ b < 0 by omega), decide_eq_true h]; exact ⟨0, fun _ _ => by simp [wrap64]⟩
      · omega
      · simp only [if_neg (show ¬ a < 0 by omega), if_pos (show a > 0 from ha), if_neg (show ¬ b < 0 by omega), if_pos (show b > 0 from hb), if_neg (show ¬ c < 0 by omega), if_pos (show c > 0 from h), decide_eq_false (show ¬ a < 0 by omega), decide_eq_false (show ¬ b < 0 by omega), decide_eq_false (show ¬ c < 0 by omega)]; exact ⟨0, fun _ _ => by simp [wrap64]⟩
theorem natAbs_lt {x : Int} (h : May x) : 0 ≤ (x.natAbs : Int) ∧ (x.natAbs : Int) ≤ 9223372036854775807 := by unfold May at h; omega
theorem abs_prod {a b : Int} (ha : May a) (hb : May b) : 0 ≤ (a.natAbs : Int) * b.natAbs ∧ (a.natAbs : Int) * b.natAbs ≤ 85070591730234615847396907784232501249 :=
  ⟨Int.mul_nonneg (natAbs_lt ha).1 (natAbs_lt hb).1, Int.le_trans (Int.mul_le_mul (natAbs_lt ha).2 (natAbs_lt hb).2 (natAbs_lt hb).1 (by decide)) (by decide)⟩
theorem scaled_ev {a b c : Int} (ha0 : -9223372036854775808 ≤ a) (ha1 : a ≤ 9223372036854775807) (hb0 : -9223372036854775808 ≤ b) (hb1 : b ≤ 9223372036854775807) (hc0 : -9223372036854775808 ≤ c) (hc1 : c ≤ 9223372036854775807) :
    Ev (fun k => dec_Scaled.f k a b c) (scaledP a b c) := by
  have no : Ev (fun k => dec_Scaled.j0 k a b c true) (0, false) := Ev.step (fun k => by rw [dec_Scaled.j0]) (Ev.pos rfl (Ev.now _))
  refine Ev.congr (fun k => by rw [dec_Scaled.f, may_f ha0 ha1, Option.bind_some]) ?_
  by_cases ha : May a
  · refine Ev.pos (decide_eq_true ha) ?_
    refine Ev.congr (fun k => by rw [may_f hb0 hb1, Option.bind_some]) ?_
    by_cases hb : May b
    · refine Ev.pos (decide_eq_true hb) ?_
      refine Ev.congr (fun k => by rw [may_f hc0 hc1, Option.bind_some]) ?_
      by_cases hc : May c
      · refine Ev.pos (decide_eq_true hc) ?_
        by_cases hz : c = 0
        · rw [show (c == 0) = true from beq_iff_eq.mpr hz, show scaledP a b c = (0, false) from if_neg (fun h => h.2.2.2 hz)]; exact no
        · rw [show (c == 0) = false from beq_eq_false_iff_ne.mpr hz, show scaledP a b c = _ from if_pos ⟨ha, hb, hc, hz⟩]
          refine Ev.step (fun k => by rw [dec_Scaled.j0]) (Ev.neg (by decide) ?_)
          unfold May at ha hb hc
          simp only [size_f c hc.1 hc.2, size_f a ha.1 ha.2, size_f b hb.1 hb.2, Option.bind_some]
          rw [mul64_f _ _ (by omega) (by omega) (by omega) (by omega)]
          simp only [Option.bind_some]
          have hp := abs_prod ha hb
          have hm : 0 < (c.natAbs : Int) := by omega
          by_cases ho : (a.natAbs : Int) * b.natAbs / 18446744073709551616 ≥ (c.natAbs : Int)
          · rw [if_pos ho]; exact Ev.pos ho (Ev.now _)
          · rw [if_neg ho]
            refine Ev.neg ho ?_
            have hd := div64_ev (hi := (a.natAbs : Int) * b.natAbs / 18446744073709551616) (lo := (a.natAbs : Int) * b.natAbs % 18446744073709551616) (y := (c.natAbs : Int)) (by omega) (by omega) (by omega) (by omega) (by omega) (by omega)
            rw [show (a.natAbs : Int) * b.natAbs / 18446744073709551616 * 18446744073709551616 + (a.natAbs : Int) * b.natAbs % 18446744073709551616 = (a.natAbs : Int) * b.natAbs by omega] at hd
            refine Ev.bind hd ?_
            dsimp only
            have hr0 := Int.emod_nonneg ((a.natAbs : Int) * b.natAbs) (b := (c.natAbs : Int)) (by omega)
            have hr1 := Int.emod_lt_of_pos ((a.natAbs : Int) * b.natAbs) hm
            have hq0 : 0 ≤ (a.natAbs : Int) * b.natAbs / (c.natAbs : Int) := Int.ediv_nonneg hp.1 (by omega)
            have hz' : a = 0 ∨ b = 0 → upP (a.natAbs * b.natAbs) c.natAbs = 0 := by
              intro h
              have : (a.natAbs : Int) * b.natAbs = 0 := by
                rcases h with rfl | rfl <;> simp
              unfold upP
              rw [this, Int.zero_ediv, Int.zero_emod, if_neg (by omega)]
            have key : Ev (fun k => dec_Scaled.j1 k a b c (upP (a.natAbs * b.natAbs) c.natAbs)) (if upP (a.natAbs * b.natAbs) c.natAbs > 9223372036854775807 then (0, false) else (sg a b c (upP (a.natAbs * b.natAbs) c.natAbs), true)) := by
              by_cases hq : upP (a.natAbs * b.natAbs) c.natAbs > 9223372036854775807
              · rw [if_pos hq]; exact Ev.step (fun k => by rw [dec_Scaled.j1]) (Ev.pos hq (Ev.now _))
              · rw [if_neg hq]
                refine scaled_j1 hz ?_ (by omega) hz'
                unfold upP; split <;> omega
            rw [u64i (x := (c.natAbs : Int) - (a.natAbs : Int) * b.natAbs % (c.natAbs : Int)) (by omega) (by omega)]
            by_cases hu : (a.natAbs : Int) * b.natAbs % (c.natAbs : Int) ≥ (c.natAbs : Int) - (a.natAbs : Int) * b.natAbs % (c.natAbs : Int)
            · refine Ev.pos hu ?_
              rw [u64w]
              have e : upP (a.natAbs * b.natAbs) c.natAbs = ((a.natAbs : Int) * b.natAbs / (c.natAbs : Int) + 1) % 18446744073709551616 := if_pos hu
              rw [← e]; exact key
            · refine Ev.neg hu ?_
              have e : upP (a.natAbs * b.natAbs) c.natAbs = (a.natAbs : Int) * b.natAbs / (c.natAbs : Int) := if_neg hu
              rw [← e]; exact key
      · rw [show scaledP a b c = (0, false) from if_neg (fun h => hc h.2.2.1)]
        exact Ev.neg (by rw [decide_eq_false hc]; decide) no
    · rw [show scaledP a b c = (0, false) from if_neg (fun h => hb h.2.1)]
      exact Ev.neg (by rw [decide_eq_false hb]; decide) no
  · rw [show scaledP a b c = (0, false) from if_neg (fun h => ha h.1)]
    exact Ev.neg (by rw [decide_eq_false ha]; decide) no
theorem rscaled_j2 {a b c q : Int} (h0 : 0 ≤ q) (h1 : q ≤ 9223372036854775807) : Ev (fun k => oculusref08_Scaled.j2 k a b c q) (sg a b c q, true) := by
  refine Ev.step (fun k => by rw [oculusref08_Scaled.j2]) ?_
  refine Ev.neg (by omega) ?_
  rw [w64 (x := q) (by omega) (by omega), w64 (x := -q) (by omega) (by omega), w64 (x := - -q) (by omega) (by omega)]
  unfold sg
  by_cases hx : (decide (a < 0) != decide (b < 0)) = true
  · refine Ev.pos hx ?_
    rw [hx]
    by_cases hc : c < 0
    · refine Ev.pos hc ?_
      rw [decide_eq_true hc, Int.neg_neg]; exact Ev.now _
    · refine Ev.neg hc ?_
      rw [decide_eq_false hc]; exact Ev.now _
  · refine Ev.neg hx ?_
    rw [Bool.eq_false_iff.mpr hx]
    by_cases hc : c < 0
    · refine Ev.pos hc ?_
      rw [decide_eq_true hc]; exact Ev.now _
    · refine Ev.neg hc ?_
      rw [decide_eq_false hc]; exact Ev.now _
theorem rscaled_ev {a b c : Int} (ha0 : -9223372036854775808 ≤ a) (ha1 : a ≤ 9223372036854775807) (hb0 : -9223372036854775808 ≤ b) (hb1 : b ≤ 9223372036854775807) (hc0 : -9223372036854775808 ≤ c) (hc1 : c ≤ 9223372036854775807) :
    Ev (fun k => oculusref08_Scaled.f k a b c) (scaledR a b c) := by
  have no : Ev (fun k => oculusref08_Scaled.j0 k a b c true) (0, false) := Ev.step (fun k => by rw [oculusref08_Scaled.j0]) (Ev.pos rfl (Ev.now _))
  refine Ev.congr (fun k => by rw [oculusref08_Scaled.f, rmay_f ha0 ha1, Option.bind_some]) ?_
  by_cases ha : May a
  · refine Ev.pos (decide_eq_true ha) ?_
    refine Ev.congr (fun k => by rw [rmay_f hb0 hb1, Option.bind_some]) ?_
    by_cases hb : May b
    · refine Ev.pos (decide_eq_true hb) ?_
      refine Ev.congr (fun k => by rw [rmay_f hc0 hc1, Option.bind_some]) ?_
      by_cases hc : May c
      · refine Ev.pos (decide_eq_true hc) ?_
        by_cases hz : c = 0
        · rw [show (c == 0) = true from beq_iff_eq.mpr hz, show scaledR a b c = (0, false) from if_neg (fun h => h.2.2.2 hz)]; exact no
        · rw [show (c == 0) = false from beq_eq_false_iff_ne.mpr hz, show scaledR a b c = _ from if_pos ⟨ha, hb, hc, hz⟩]
          refine Ev.step (fun k => by rw [oculusref08_Scaled.j0]) (Ev.neg (by decide) ?_)
          unfold May at ha hb hc
          simp only [abs_f c hc.1 hc.2, abs_f a ha.1 ha.2, abs_f b hb.1 hb.2, Option.bind_some]
          rw [times_f _ _ (by omega) (by omega) (by omega) (by omega)]
          simp only [Option.bind_some]
          have hp := abs_prod ha hb
          have hm : 0 < (c.natAbs : Int) := by omega
          obtain ⟨Q', hd, hQ, hQ0, hQ1⟩ := divide_ev (H := (a.natAbs : Int) * b.natAbs / 18446744073709551616) (L := (a.natAbs : Int) * b.natAbs % 18446744073709551616) (b := (c.natAbs : Int)) hm (by omega) (by omega) (by omega) (by omega) (by omega)
          rw [show (a.natAbs : Int) * b.natAbs / 18446744073709551616 * 18446744073709551616 + (a.natAbs : Int) * b.natAbs % 18446744073709551616 = (a.natAbs : Int) * b.natAbs by omega] at hd hQ
          refine Ev.bind hd ?_
          dsimp only
          have hr0 := Int.emod_nonneg ((a.natAbs : Int) * b.natAbs) (b := (c.natAbs : Int)) (by omega)
          have hr1 := Int.emod_lt_of_pos ((a.natAbs : Int) * b.natAbs) hm
          have hq0 : 0 ≤ (a.natAbs : Int) * b.natAbs / (c.natAbs : Int) := Int.ediv_nonneg hp.1 (by omega)
          have stop : ∀ Q R ok, Ev (fun k => oculusref08_Scaled.j1 k a b c (c.natAbs : Int) true Q R ok) (0, false) := fun Q R ok => Ev.step (fun k => by rw [oculusref08_Scaled.j1]) (Ev.pos rfl (Ev.now _))
          generalize hdd : decide ((a.natAbs : Int) * b.natAbs / (c.natAbs : Int) < 18446744073709551616) = dd
          by_cases h64 : (a.natAbs : Int) * b.natAbs / (c.natAbs : Int) < 18446744073709551616
          · obtain rfl : dd = true := by rw [← hdd]; exact decide_eq_true h64
            refine Ev.pos rfl ?_
            have eQ := hQ h64
            rw [eQ]
            by_cases ho : (a.natAbs : Int) * b.natAbs / (c.natAbs : Int) > 9223372036854775807
            · rw [if_pos ho, decide_eq_true ho]; exact stop _ _ _
            · rw [if_neg ho, decide_eq_false ho]
              refine Ev.step (fun k => by rw [oculusref08_Scaled.j1]) (Ev.neg (by decide) ?_)
              have key : Ev (fun k => oculusref08_Scaled.j2 k a b c (upR (a.natAbs * b.natAbs) c.natAbs)) (if upR (a.natAbs * b.natAbs) c.natAbs > 9223372036854775807 then (0, false) else (sg a b c (upR (a.natAbs * b.natAbs) c.natAbs), true)) := by
                by_cases hq : upR (a.natAbs * b.natAbs) c.natAbs > 9223372036854775807
                · rw [if_pos hq]; exact Ev.step (fun k => by rw [oculusref08_Scaled.j2]) (Ev.pos hq (Ev.now _))
                · rw [if_neg hq]
                  refine rscaled_j2 ?_ (by omega)
                  unfold upR; split <;> omega
              rw [u64i (x := (c.natAbs : Int) - (a.natAbs : Int) * b.natAbs % (c.natAbs : Int)) (by omega) (by omega)]
              by_cases hu : (c.natAbs : Int) - (a.natAbs : Int) * b.natAbs % (c.natAbs : Int) ≤ (a.natAbs : Int) * b.natAbs % (c.natAbs : Int)
              · refine Ev.pos hu ?_
                rw [u64i (x := (a.natAbs : Int) * b.natAbs / (c.natAbs : Int) + 1) (by omega) (by omega)]
                have e : upR (a.natAbs * b.natAbs) c.natAbs = (a.natAbs : Int) * b.natAbs / (c.natAbs : Int) + 1 := if_pos hu
                rw [← e]; exact key
              · refine Ev.neg hu ?_
                have e : upR (a.natAbs * b.natAbs) c.natAbs = (a.natAbs : Int) * b.natAbs / (c.natAbs : Int) := if_neg hu
                rw [← e]; exact key
          · rw [if_pos (by omega)]
            obtain rfl : dd = false := by rw [← hdd]; exact decide_eq_false h64
            refine Ev.neg (by decide) ?_
            exact stop _ _ _
      · rw [show scaledR a b c = (0, false) from if_neg (fun h => hc h.2.2.1)]
        exact Ev.neg (by rw [decide_eq_false hc]; decide) no
    · rw [show scaledR a b c = (0, false) from if_neg (fun h => hb h.2.1)]
      exact Ev.neg (by rw [decide_eq_false hb]; decide) no
  · rw [show scaledR a b c = (0, false) from if_neg (fun h => ha h.1)]
    exact Ev.neg (by rw [decide_eq_false ha]; decide) no
theorem scaled_eq {a b c : Int} (h : ¬ ((a.natAbs : Int) * b.natAbs / c.natAbs = 18446744073709551615 ∧ (c.natAbs : Int) - (a.natAbs : Int) * b.natAbs % c.natAbs ≤ (a.natAbs : Int) * b.natAbs % c.natAbs)) : scaledP a b c = scaledR a b c := by
  unfold scaledP scaledR
  by_cases hc : May a ∧ May b ∧ May c ∧ c ≠ 0
  · rw [if_pos hc, if_pos hc]
    have hp := abs_prod hc.1 hc.2.1
    have hm : 0 < (c.natAbs : Int) := by omega
    have hq0 : 0 ≤ (a.natAbs : Int) * b.natAbs / (c.natAbs : Int) := Int.ediv_nonneg hp.1 (by omega)
    have hiff : (a.natAbs : Int) * b.natAbs / 18446744073709551616 ≥ (c.natAbs : Int) ↔ ¬ (a.natAbs : Int) * b.natAbs / (c.natAbs : Int) < 18446744073709551616 := by
      rw [Int.ediv_lt_iff_lt_mul hm, Int.not_lt, ge_iff_le, Int.le_ediv_iff_mul_le (by decide), Int.mul_comm]
    unfold upP upR
    by_cases h64 : (a.natAbs : Int) * b.natAbs / (c.natAbs : Int) < 18446744073709551616
    · rw [if_neg (fun hh => hiff.1 hh h64)]
      by_cases hu : (c.natAbs : Int) - (a.natAbs : Int) * b.natAbs % (c.natAbs : Int) ≤ (a.natAbs : Int) * b.natAbs % (c.natAbs : Int)
      · simp only [if_pos hu]
        have : (a.natAbs : Int) * b.natAbs / (c.natAbs : Int) ≠ 18446744073709551615 := fun e => h ⟨e, hu⟩
        rw [show ((a.natAbs : Int) * b.natAbs / (c.natAbs : Int) + 1) % 18446744073709551616 = (a.natAbs : Int) * b.natAbs / (c.natAbs : Int) + 1 by omega]
        by_cases ho : (a.natAbs : Int) * b.natAbs / (c.natAbs : Int) > 9223372036854775807
        · rw [if_pos ho, if_pos (by omega)]
        · rw [if_neg ho]
      · simp only [if_neg hu]
        by_cases ho : (a.natAbs : Int) * b.natAbs / (c.natAbs : Int) > 9223372036854775807
        · simp only [if_pos ho]
        · simp only [if_neg ho]
    · rw [if_pos (hiff.2 h64), if_pos (by omega)]
  · rw [if_neg hc, if_neg hc]
end Go.Proofs.Ytmagefemmhfkaaa.Q

namespace Go.Proofs.Ytmagefemmhfkaaa.Q
open Go Go.RowKit Go.Proofs.Ytmagefemmhfkaaa.PA Go.Proofs.YtmagefemmhfkaaaW.PrintWords Go.Proofs.YtmagefemmhfkaaaW.PrintLast Go.Proofs.YtmagefemmhfkaaaW.PrintMore
set_option linter.unusedVariables false
set_option linter.unusedSimpArgs false
def I64 (x : Int) : Prop := -9223372036854775808 ≤ x ∧ x ≤ 9223372036854775807
theorem May.i {x : Int} (h : May x) : I64 x := by unfold May at h; unfold I64; omega
def addS (a b : Int) : Int × Bool := if May a ∧ May b ∧ May (a + b) then (a + b, true) else (0, false)
def negS (a : Int) : Int × Bool := if May a then (-a, true) else (0, false)
def subS (a b : Int) : Int × Bool := if May a ∧ May b ∧ May (a - b) then (a - b, true) else (0, false)
theorem addS_yes {a b : Int} (h : May a ∧ May b ∧ May (a + b)) : addS a b = (a + b, true) := if_pos h
theorem addS_no {a b : Int} (h : ¬ May (a + b)) : addS a b = (0, false) := if_neg (fun hh => h hh.2.2)
theorem add_f {a b : Int} (ha : I64 a) (hb : I64 b) : dec_Add.f a b = some (addS a b) := by
  unfold I64 at ha hb
  unfold dec_Add.f
  rw [may_f ha.1 ha.2, may_f hb.1 hb.2, Option.bind_some]
  by_cases h1 : May a
  · rw [if_pos (decide_eq_true h1), Option.bind_some]
    by_cases h2 : May b
    · rw [if_pos (decide_eq_true h2)]
      have hw := show -9223372036854775808 ≤ wrap64 (a + b) ∧ wrap64 (a + b) ≤ 9223372036854775807 by unfold wrap64; omega
      rw [may_f hw.1 hw.2, Option.bind_some]
      have m1 := h1; have m2 := h2
      unfold May at m1 m2
      by_cases h3 : May (a + b)
      · have m3 := h3
        unfold May at m3
        have ew : wrap64 (a + b) = a + b := w64 (by omega) (by omega)
        rw [show addS a b = (a + b, true) from if_pos ⟨h1, h2, h3⟩, ew, if_pos (decide_eq_true h3)]
        repeat' split
        all_goals first | rfl | (exfalso; omega)
      · rw [show addS a b = (0, false) from if_neg (fun h => h3 h.2.2)]
        by_cases h4 : May (wrap64 (a + b))
        · rw [if_pos (decide_eq_true h4)]
          unfold May at h3 h4
          unfold wrap64 at h4 ⊢
          repeat' split
          all_goals first | rfl | (exfalso; omega)
        · rw [if_neg (by rw [decide_eq_false h4]; decide)]
    · rw [if_neg (by rw [decide_eq_false h2]; decide), show addS a b = (0, false) from if_neg (fun h => h2 h.2.1)]
  · rw [if_neg (by rw [decide_eq_false h1]; decide), show addS a b = (0, false) from if_neg (fun h => h1 h.1)]
theorem radd_f {a b : Int} (ha : I64 a) (hb : I64 b) : oculusref08_Add.f a b = some (addS a b) := by
  unfold I64 at ha hb
  unfold oculusref08_Add.f
  rw [rmay_f ha.1 ha.2, rmay_f hb.1 hb.2, Option.bind_some]
  by_cases h1 : May a
  · rw [if_pos (decide_eq_true h1), Option.bind_some]
    by_cases h2 : May b
    · rw [if_pos (decide_eq_true h2)]
      have m1 := h1; have m2 := h2
      unfold May at m1 m2
      by_cases h3 : May (a + b)
      · have m3 := h3
        unfold May at m3
        rw [show addS a b = (a + b, true) from if_pos ⟨h1, h2, h3⟩, w64 (x := a + b) (by omega) (by omega)]
        unfold wrap64
        repeat' split
        all_goals first | rfl | (exfalso; omega)
      · rw [show addS a b = (0, false) from if_neg (fun h => h3 h.2.2)]
        unfold May at h3
        unfold wrap64
        repeat' split
        all_goals first | rfl | (exfalso; omega)
    · rw [if_neg (by rw [decide_eq_false h2]; decide), show addS a b = (0, false) from if_neg (fun h => h2 h.2.1)]
  · rw [if_neg (by rw [decide_eq_false h1]; decide), show addS a b = (0, false) from if_neg (fun h => h1 h.1)]
theorem neg_f {a : Int} (ha : I64 a) : dec_Neg.f a = some (negS a) := by
  unfold I64 at ha
  unfold dec_Neg.f negS
  rw [may_f ha.1 ha.2, Option.bind_some]
  by_cases h1 : May a
  · rw [if_pos (decide_eq_true h1), if_pos h1]; have m1 := h1; unfold May at m1; rw [w64 (by omega) (by omega)]
  · rw [if_neg (by rw [decide_eq_false h1]; decide), if_neg h1]
theorem addS_neg {a b : Int} (hb : May b) : addS a (-b) = subS a b := by
  unfold addS subS
  by_cases h : May a ∧ May b ∧ May (a - b)
  · rw [if_pos h, if_pos ⟨h.1, by unfold May at *; omega, by rw [← Int.sub_eq_add_neg]; exact h.2.2⟩, Int.sub_eq_add_neg]
  · rw [if_neg h, if_neg (fun hh => h ⟨hh.1, hb, by rw [Int.sub_eq_add_neg]; exact hh.2.2⟩)]
theorem sub_f {a b : Int} (ha : I64 a) (hb : I64 b) : dec_Sub.f a b = some (subS a b) := by
  unfold dec_Sub.f
  rw [neg_f hb, Option.bind_some]
  unfold negS
  by_cases h : May b
  · rw [if_pos h, if_pos rfl, add_f ha (by unfold May at h; unfold I64; omega), Option.bind_some, addS_neg h]
  · rw [if_neg h, if_neg (by decide)]; unfold subS; rw [if_neg (fun hh => h hh.2.1)]
theorem tdm (a : Int) {m : Int} (hm : 0 < m) : a = a.tdiv m * m + a.tmod m ∧ (0 ≤ a → 0 ≤ a.tmod m ∧ a.tmod m < m) ∧ (a ≤ 0 → -m < a.tmod m ∧ a.tmod m ≤ 0) := by
  refine ⟨(Int.tdiv_mul_add_tmod a m).symm, fun h => ⟨Int.tmod_nonneg _ h, Int.tmod_lt_of_pos _ hm⟩, fun h => ?_⟩
  have h1 := Int.tmod_nonneg m (a := -a) (by omega)
  have h2 := Int.tmod_lt_of_pos (-a) hm
  rw [Int.neg_tmod] at h1 h2
  omega
theorem tdlow (a : Int) {m : Int} (hm : 0 < m) : (0 ≤ a → 0 ≤ a.tdiv m * m) ∧ (a ≤ 0 → a.tdiv m * m ≤ 0) := by
  refine ⟨fun h => Int.mul_nonneg (Int.tdiv_nonneg h (Int.le_of_lt hm)) (Int.le_of_lt hm), fun h => ?_⟩
  have := Int.mul_nonneg (Int.tdiv_nonneg (a := -a) (by omega) (Int.le_of_lt hm)) (Int.le_of_lt hm)
  rw [Int.neg_tdiv, Int.neg_mul] at this
  omega
theorem units_f {a : Int} (ha : I64 a) : dec_Units.f a = some (if May a then a.tdiv 10000 else 0) := by
  have t := tdm a (m := 10000) (by decide)
  unfold I64 at ha
  unfold dec_Units.f
  rw [may_f ha.1 ha.2, Option.bind_some]
  by_cases h1 : May a
  · rw [if_pos (decide_eq_true h1), if_pos h1, w64 (by omega) (by omega)]
  · rw [if_neg (by rw [decide_eq_false h1]; decide), if_neg h1]
theorem whole_f {a : Int} (ha : I64 a) : dec_Whole.f a = some (decide (a.tmod 10000 = 0 ∧ May a)) := by
  unfold I64 at ha
  unfold dec_Whole.f
  by_cases h : a.tmod 10000 = 0
  · rw [if_pos h, may_f ha.1 ha.2, Option.bind_some]; simp [h]
  · rw [if_neg h]; simp [h]
theorem alive08 : Ev (fun k => oculuslaw08_alive.f k) true := Ev.of (fun k => oculuslaw08_alive.mono k) (k := 300) (by kernel_rfl)
end Go.Proofs.Ytmagefemmhfkaaa.Q

namespace Go.Proofs.Ytmagefemmhfkaaa.Q
open Go Go.RowKit Go.Proofs.Ytmagefemmhfkaaa.PA Go.Proofs.YtmagefemmhfkaaaW.PrintWords Go.Proofs.YtmagefemmhfkaaaW.PrintLast Go.Proofs.YtmagefemmhfkaaaW.PrintMore
set_option linter.unusedVariables false
set_option linter.unusedSimpArgs false
def Away (x s m : Int) : Prop := (m = 1 ∧ s ≤ 2 * ((x.tmod s).natAbs : Int)) ∨ m = 3 ∨ (m = 4 ∧ x < 0) ∨ (m = 5 ∧ x > 0)
instance (x s m : Int) : Decidable (Away x s m) := by unfold Away; infer_instance
def StepOk (x s m : Int) : Prop := 0 < s ∧ May x ∧ 1 ≤ m ∧ m ≤ 5
instance (x s m : Int) : Decidable (StepOk x s m) := by unfold StepOk; infer_instance
def stepS (x s m : Int) : Int × Bool :=
  if StepOk x s m then (if x.tmod s = 0 then (x, true) else if Away x s m then addS (x - x.tmod s) (if x < 0 then -s else s) else (x - x.tmod s, true)) else (0, false)
theorem step_j1 {x s m : Int} (hs : 0 < s) (hs1 : s ≤ 9223372036854775807) (hx : May x) (hm : 1 ≤ m) (hm' : m ≤ 5) (hr : x.tmod s ≠ 0) :
    Ev (fun k => round_Step.j1 k x s m (x.tmod s) (x - x.tmod s) (if x < 0 then -s else s)) (if Away x s m then addS (x - x.tmod s) (if x < 0 then -s else s) else (x - x.tmod s, true)) := by
  have t := tdm x hs
  have mx_ := hx
  unfold May at mx_
  have e : mx (x.tmod s) (wrap64 (-(x.tmod s))) = ((x.tmod s).natAbs : Int) := by rw [w64 (by omega) (by omega)]; unfold mx; omega
  have hl : I64 (x - x.tmod s) := by unfold I64; omega
  have hw : I64 (if x < 0 then -s else s) := by unfold I64; split <;> omega
  have yes : Away x s m → Ev (fun k => (dec_Add.f (x - x.tmod s) (if x < 0 then -s else s)).bind fun b => some (b.1, b.2)) (if Away x s m then addS (x - x.tmod s) (if x < 0 then -s else s) else (x - x.tmod s, true)) := fun h => by
    rw [if_pos h]; exact Ev.some_bind (add_f hl hw) (Ev.now _)
  have no : ¬ Away x s m → Ev (fun k => some (x - x.tmod s, true)) (if Away x s m then addS (x - x.tmod s) (if x < 0 then -s else s) else (x - x.tmod s, true)) := fun h => by
    rw [if_neg h]; exact Ev.now _
  refine Ev.step (fun k => by rw [round_Step.j1]) ?_
  rw [e, w64 (x := s - ((x.tmod s).natAbs : Int)) (by omega) (by omega)]
  repeat' first | refine Ev.ite (fun _ => ?_) (fun _ => ?_)
  all_goals first
    | (refine yes ?_; unfold Away; omega)
    | (refine no ?_; unfold Away; omega)
theorem step_ev {x s m : Int} (hx : I64 x) (hs : I64 s) : Ev (fun k => round_Step.f k x s m) (stepS x s m) := by
  have no : ¬ StepOk x s m → Ev (fun k => round_Step.j0 k x s m true) (stepS x s m) := fun h => by
    rw [stepS, if_neg h]; exact Ev.step (fun k => by rw [round_Step.j0]) (Ev.pos rfl (Ev.now _))
  unfold I64 at hx hs
  refine Ev.congr (fun k => by rw [round_Step.f]) ?_
  refine Ev.ite (fun h => no (fun hh => by unfold StepOk at hh; omega)) (fun h1 => ?_)
  refine Ev.some_bind (may_f hx.1 hx.2) ?_
  refine Ev.ite (fun h => ?_) (fun h => no (fun hh => h (decide_eq_true hh.2.1)))
  have hm := of_decide_eq_true h
  refine Ev.ite (fun h => no (fun hh => by unfold StepOk at hh; omega)) (fun h2 => ?_)
  by_cases h3 : m > 5
  · rw [decide_eq_true h3]; exact no (fun hh => by unfold StepOk at hh; omega)
  · rw [decide_eq_false h3]
    have ok : StepOk x s m := ⟨by omega, hm, by omega, by omega⟩
    have t := tdm x (m := s) (by omega)
    rw [stepS, if_pos ok]
    refine Ev.step (fun k => by rw [round_Step.j0]) (Ev.neg (by decide) (Ev.neg (by omega) ?_))
    refine Ev.ite (fun h => ?_) (fun h => ?_)
    · rw [if_pos h]; exact Ev.now _
    · rw [if_neg h]
      have j := step_j1 (x := x) (s := s) (m := m) (by omega) (by omega) hm (by omega) (by omega) h
      unfold May at hm
      rw [w64 (x := x - x.tmod s) (by omega) (by omega), w64 (x := -s) (by omega) (by omega)]
      refine Ev.ite (fun hn => ?_) (fun hn => ?_)
      · rw [if_pos hn] at j; rw [if_pos hn]; exact j
      · rw [if_neg hn] at j; rw [if_neg hn]; exact j
theorem stepS_near {x s m y : Int} (h : stepS x s m = (y, true)) : StepOk x s m ∧ May y ∧ (∃ q, y = q * s) ∧ (0 ≤ x → 0 ≤ y) ∧ (x ≤ 0 → y ≤ 0)
    ∧ ((y.natAbs : Int) - x.natAbs < s ∧ (x.natAbs : Int) - y.natAbs < s) ∧ (m = 1 → 2 * ((y.natAbs : Int) - x.natAbs) ≤ s ∧ 2 * ((x.natAbs : Int) - y.natAbs) ≤ s)
    ∧ (m = 4 → y ≤ x) ∧ (m = 5 → x ≤ y) ∧ (m = 2 → y.natAbs ≤ x.natAbs) ∧ (m = 3 → x.natAbs ≤ y.natAbs) := by
  unfold stepS at h
  by_cases ok : StepOk x s m
  · rw [if_pos ok] at h
    obtain ⟨hs, hx, h1, h5⟩ := id ok
    have t := tdm x hs
    have t2 := tdlow x hs
    have mx_ := hx
    unfold May at mx_
    by_cases hr : x.tmod s = 0
    · rw [if_pos hr] at h
      obtain rfl := (Prod.mk.inj h).1
      exact ⟨ok, hx, ⟨x.tdiv s, by omega⟩, by omega, by omega, by omega, by omega, by omega, by omega, by omega, by omega⟩
    · rw [if_neg hr] at h
      by_cases ha : Away x s m
      · rw [if_pos ha] at h
        unfold Away at ha
        by_cases hn : x < 0
        · rw [if_pos hn] at h
          unfold addS at h
          by_cases hy : May (x - x.tmod s) ∧ May (-s) ∧ May (x - x.tmod s + -s)
          · rw [if_pos hy] at h
            obtain rfl := (Prod.mk.inj h).1
            exact ⟨ok, hy.2.2, ⟨x.tdiv s - 1, by rw [Int.sub_mul, Int.one_mul]; omega⟩, by omega, by omega, by omega, by omega, by omega, by omega, by omega, by omega⟩
          · rw [if_neg hy] at h
            exact absurd (Prod.mk.inj h).2 (by decide)
        · rw [if_neg hn] at h
          unfold addS at h
          by_cases hy : May (x - x.tmod s) ∧ May s ∧ May (x - x.tmod s + s)
          · rw [if_pos hy] at h
            obtain rfl := (Prod.mk.inj h).1
            exact ⟨ok, hy.2.2, ⟨x.tdiv s + 1, by rw [Int.add_mul, Int.one_mul]; omega⟩, by omega, by omega, by omega, by omega, by omega, by omega, by omega, by omega⟩
          · rw [if_neg hy] at h
            exact absurd (Prod.mk.inj h).2 (by decide)
      · rw [if_neg ha] at h
        obtain rfl := (Prod.mk.inj h).1
        unfold Away at ha
        refine ⟨ok, by unfold May; omega, ⟨x.tdiv s, by omega⟩, by omega, by omega, by omega, by omega, by omega, by omega, by omega, by omega⟩
  · rw [if_neg ok] at h
    exact absurd (Prod.mk.inj h).2 (by decide)
theorem stepS_false {x s m y : Int} (h : stepS x s m = (y, false)) : y = 0 := by
  unfold stepS addS at h
  repeat' split at h
  all_goals first
    | exact (Prod.mk.inj h).1.symm
    | exact absurd (Prod.mk.inj h).2 (by decide)
theorem stepS_again {y s m : Int} (ok : 0 < s ∧ May y ∧ 1 ≤ m ∧ m ≤ 5) (hq : ∃ q, y = q * s) : stepS y s m = (y, true) := by
  obtain ⟨q, rfl⟩ := hq
  rw [stepS, if_pos (show StepOk (q * s) s m from ok), if_pos (Int.mul_tmod_left ..)]
theorem alive09 : Ev (fun k => oculuslaw09_alive.f k) true := Ev.of (fun k => oculuslaw09_alive.mono k) (k := 300) (by kernel_rfl)
end Go.Proofs.Ytmagefemmhfkaaa.Q

namespace Go.Proofs.Ytmagefemmhfkaaa.Q
open Go Go.RowKit Go.Proofs.Ytmagefemmhfkaaa.PA Go.Proofs.YtmagefemmhfkaaaW.PrintWords Go.Proofs.YtmagefemmhfkaaaW.PrintLast Go.Proofs.YtmagefemmhfkaaaW.PrintMore
set_option linter.unusedVariables false
set_option linter.unusedSimpArgs false
def mulS (a b : Int) : Int × Bool := if May a ∧ May b ∧ May (a * b) then (a * b, true) else (0, false)
theorem mulS_yes {a b : Int} (h : May a ∧ May b ∧ May (a * b)) : mulS a b = (a * b, true) := if_pos h
theorem mulS_no {a b : Int} (h : ¬ May (a * b)) : mulS a b = (0, false) := if_neg (fun hh => h hh.2.2)
theorem sg_one (a b : Int) : sg a b 1 ((a.natAbs : Int) * b.natAbs) = a * b := by
  unfold sg
  rcases (by omega : a < 0 ∨ 0 ≤ a) with ha | ha <;> rcases (by omega : b < 0 ∨ 0 ≤ b) with hb | hb
  · rw [decide_eq_true ha, decide_eq_true hb, Int.ofNat_natAbs_of_nonpos (by omega), Int.ofNat_natAbs_of_nonpos (by omega)]
    simp [Int.neg_mul_neg]
  · rw [decide_eq_true ha, decide_eq_false (by omega), Int.ofNat_natAbs_of_nonpos (by omega), Int.natAbs_of_nonneg hb]
    simp [Int.neg_mul]
  · rw [decide_eq_false (by omega), decide_eq_true hb, Int.natAbs_of_nonneg ha, Int.ofNat_natAbs_of_nonpos (by omega)]
    simp [Int.mul_neg]
  · rw [decide_eq_false (by omega), decide_eq_false (by omega), Int.natAbs_of_nonneg ha, Int.natAbs_of_nonneg hb]
    simp
theorem scaledR_one (a b : Int) : scaledR a b 1 = mulS a b := by
  unfold scaledR mulS upR
  have e1 : ((1 : Int).natAbs : Int) = 1 := rfl
  rw [e1, Int.ediv_one, Int.emod_one, if_neg (show ¬ (1 : Int) - 0 ≤ 0 by decide), sg_one]
  have hab : (a.natAbs : Int) * b.natAbs = ((a * b).natAbs : Int) := by rw [Int.natAbs_mul]; simp
  rw [hab]
  by_cases h : May a ∧ May b ∧ May (a * b)
  · have h3 := h.2.2
    unfold May at h3
    rw [if_pos ⟨h.1, h.2.1, by decide, by decide⟩, if_pos h, if_neg (by omega), if_neg (by omega)]
  · rw [if_neg h]
    by_cases h2 : May a ∧ May b ∧ May 1 ∧ (1 : Int) ≠ 0
    · rw [if_pos h2]
      have h3 : ¬ May (a * b) := fun hh => h ⟨h2.1, h2.2.1, hh⟩
      unfold May at h3
      rw [if_pos (by omega)]
    · rw [if_neg h2]
theorem scaledP_one (a b : Int) : scaledP a b 1 = mulS a b := by
  rw [scaled_eq, scaledR_one]
  have e1 : ((1 : Int).natAbs : Int) = 1 := rfl
  rw [e1, Int.emod_one]
  omega
theorem times9_ev {a b : Int} (ha : I64 a) (hb : I64 b) : Ev (fun k => oculusref09_times.f k a b) (mulS a b) := by
  have h := rscaled_ev ha.1 ha.2 hb.1 hb.2 (c := 1) (by decide) (by decide)
  rw [scaledR_one] at h
  exact Ev.congr (fun k => by rw [oculusref09_times.f]) (Ev.bind h (Ev.now _))
theorem down_neg {x s : Int} (hs : 0 < s) (hx : x < 0) (hr : x.tmod s ≠ 0) : x / s = x.tdiv s - 1 ∧ x % s = x.tmod s + s := by
  have t := tdm x hs
  refine (Int.ediv_emod_unique hs).2 ⟨?_, by omega, by omega⟩
  rw [Int.mul_sub, Int.mul_one, Int.mul_comm s]
  omega
theorem down_f {x s : Int} (hs : 0 < s) (hs1 : s ≤ 9223372036854775807) (hx : May x) : oculusref09_down.f x s = some (x / s) := by
  have t := tdm x hs
  have t2 := tdlow x hs
  have mx_ := hx
  unfold May at mx_
  have hq := Int.natAbs_tdiv_le_natAbs x s
  unfold oculusref09_down.f
  rw [if_neg (by omega), w64 (x := x.tdiv s) (by omega) (by omega), w64 (x := x.tdiv s * s) (by omega) (by omega)]
  by_cases hn : x < 0
  · rw [if_pos hn]
    by_cases hr : x.tmod s = 0
    · rw [if_pos (by omega)]
      have e : x / s = x.tdiv s := ((Int.ediv_emod_unique hs).2 ⟨by rw [Int.mul_comm s]; omega, Int.le_refl 0, hs⟩).1
      rw [e]
    · rw [if_neg (by omega), (down_neg hs hn hr).1, w64 (by omega) (by omega)]
  · rw [if_neg hn, Int.tdiv_eq_ediv_of_nonneg (by omega)]
theorem rstep_ev {x s m : Int} (hx : I64 x) (hs : I64 s) : Ev (fun k => oculusref09_Step.f k x s m) (stepS x s m) := by
  have no : ¬ StepOk x s m → Ev (fun k => oculusref09_Step.j0 k x s m true) (stepS x s m) := fun h => by
    rw [stepS, if_neg h]; exact Ev.step (fun k => by rw [oculusref09_Step.j0]) (Ev.pos rfl (Ev.now _))
  unfold I64 at hx hs
  refine Ev.congr (fun k => by rw [oculusref09_Step.f]) ?_
  refine Ev.ite (fun h => no (fun hh => by unfold StepOk at hh; omega)) (fun h1 => ?_)
  refine Ev.some_bind (rmay_f hx.1 hx.2) ?_
  refine Ev.ite (fun h => ?_) (fun h => no (fun hh => h (decide_eq_true hh.2.1)))
  have hm := of_decide_eq_true h
  refine Ev.ite (fun h => no (fun hh => by unfold StepOk at hh; omega)) (fun h2 => ?_)
  by_cases h3 : m > 5
  · rw [decide_eq_true h3]; exact no (fun hh => by unfold StepOk at hh; omega)
  · rw [decide_eq_false h3]
    have ok : StepOk x s m := ⟨by omega, hm, by omega, by omega⟩
    have hs0 : 0 < s := by omega
    have t := tdm x hs0
    have t2 := tdlow x hs0
    have mx_ := hm
    unfold May at mx_
    have hd := Int.mul_ediv_add_emod x s
    have hd0 := Int.emod_nonneg x (b := s) (by omega)
    have hd1 := Int.emod_lt_of_pos x hs0
    have hq := Int.natAbs_tdiv_le_natAbs x s
    refine Ev.step (fun k => by rw [oculusref09_Step.j0]) (Ev.neg (by decide) (Ev.some_bind (down_f hs0 hs.2 hm) ?_))
    have elow : IntKind.u64.wrap (IntKind.u64.wrap x - IntKind.u64.wrap (IntKind.u64.wrap (x / s) * IntKind.u64.wrap s)) = x % s := by
      have e : (IntKind.u64.wrap (x / s) * IntKind.u64.wrap s) % 18446744073709551616 = (s * (x / s)) % 18446744073709551616 := by
        rw [u64w, u64w, Int.mul_comm s, ← Int.mul_emod]
      rw [u64w (IntKind.u64.wrap (x / s) * IntKind.u64.wrap s), e, u64w x, u64w]
      generalize s * (x / s) = z at *
      omega
    rw [elow, u64i (x := s) (by omega) (by omega), u64i (x := s - x % s) (by omega) (by omega)]
    rw [stepS, if_pos ok]
    by_cases hr : x.tmod s = 0
    · have e : x % s = 0 := by
        by_cases hn : 0 ≤ x
        · rw [← Int.tmod_eq_emod_of_nonneg hn]; exact hr
        · exact ((Int.ediv_emod_unique (q := x.tdiv s) (r := 0) hs0).2 ⟨by rw [Int.mul_comm s]; omega, Int.le_refl 0, hs0⟩).2
      rw [if_pos hr]
      exact Ev.pos e (Ev.now _)
    · rw [if_neg hr]
      by_cases hn : x < 0
      · obtain ⟨e1, e2⟩ := down_neg hs0 hn hr
        rw [if_pos hn, e2]
        have hs2 : x.tmod s + s ≠ 0 := by omega
        have up : Ev (fun k => (oculusref09_times.f k (wrap64 (x / s + 1)) s).bind fun b => some (b.1, b.2)) (x - x.tmod s, true) := by
          rw [e1, w64 (by omega) (by omega), show x.tdiv s - 1 + 1 = x.tdiv s by omega]
          have h := times9_ev (a := x.tdiv s) (b := s) (by unfold I64; omega) hs
          rw [mulS, if_pos ⟨by unfold May; omega, by unfold May; omega, by unfold May; omega⟩, show x.tdiv s * s = x - x.tmod s by omega] at h
          exact Ev.bind h (Ev.now _)
        have dn : Ev (fun k => (oculusref09_times.f k (x / s) s).bind fun b => some (b.1, b.2)) (addS (x - x.tmod s) (-s)) := by
          rw [e1]
          have h := times9_ev (a := x.tdiv s - 1) (b := s) (by unfold I64; omega) hs
          have em : (x.tdiv s - 1) * s = x - x.tmod s + -s := by rw [Int.sub_mul, Int.one_mul]; omega
          have ee : mulS (x.tdiv s - 1) s = addS (x - x.tmod s) (-s) := by
            unfold mulS addS
            rw [em]
            by_cases hh : May (x - x.tmod s + -s)
            · have h9 := hh
              unfold May at h9
              have hq1 : x.tdiv s = -9223372036854775807 → s = 1 := by
                intro h7
                by_cases h8 : s = 1
                · exact h8
                · exfalso
                  have : 2 * (x.tdiv s) ≥ s * x.tdiv s := by
                    have := Int.mul_le_mul_of_nonpos_right (show (2 : Int) ≤ s by omega) (show x.tdiv s ≤ 0 by omega)
                    omega
                  rw [Int.mul_comm s] at this
                  omega
              have hs1 : s ≠ 1 := fun h8 => by subst h8; simp at hr
              rw [if_pos ⟨by unfold May; omega, by unfold May; omega, hh⟩, if_pos ⟨by unfold May; omega, by unfold May; omega, hh⟩]
            · rw [if_neg (fun h9 => hh h9.2.2), if_neg (fun h9 => hh h9.2.2)]
          rw [ee] at h
          exact Ev.bind h (Ev.now _)
        have yes : Away x s m → Ev (fun k => (oculusref09_times.f k (x / s) s).bind fun b => some (b.1, b.2)) (if Away x s m then addS (x - x.tmod s) (-s) else (x - x.tmod s, true)) := fun h => by rw [if_pos h]; exact dn
        have nay : ¬ Away x s m → Ev (fun k => (oculusref09_times.f k (wrap64 (x / s + 1)) s).bind fun b => some (b.1, b.2)) (if Away x s m then addS (x - x.tmod s) (-s) else (x - x.tmod s, true)) := fun h => by rw [if_neg h]; exact up
        refine Ev.neg hs2 ?_
        repeat' first | refine Ev.ite (fun _ => ?_) (fun _ => ?_)
        all_goals first
          | (exfalso; omega)
          | (refine yes ?_; unfold Away; omega)
          | (refine nay ?_; unfold Away; omega)
      · have e2 : x % s = x.tmod s := (Int.tmod_eq_emod_of_nonneg (by omega)).symm
        have e1 : x / s = x.tdiv s := (Int.tdiv_eq_ediv_of_nonneg (by omega)).symm
        rw [if_neg hn, e2]
        have hs1 : s ≠ 1 := fun h8 => by subst h8; simp at hr
        have hq2 : 2 * x.tdiv s ≤ s * x.tdiv s := Int.mul_le_mul_of_nonneg_right (by omega) (Int.tdiv_nonneg (by omega) (by omega))
        rw [Int.mul_comm s] at hq2
        have hqn : 0 ≤ x.tdiv s := Int.tdiv_nonneg (by omega) (by omega)
        have dn : Ev (fun k => (oculusref09_times.f k (x / s) s).bind fun b => some (b.1, b.2)) (x - x.tmod s, true) := by
          rw [e1]
          have h := times9_ev (a := x.tdiv s) (b := s) (by unfold I64; omega) hs
          rw [mulS, if_pos ⟨by unfold May; omega, by unfold May; omega, by unfold May; omega⟩, show x.tdiv s * s = x - x.tmod s by omega] at h
          exact Ev.bind h (Ev.now _)
        have up : Ev (fun k => (oculusref09_times.f k (wrap64 (x / s + 1)) s).bind fun b => some (b.1, b.2)) (addS (x - x.tmod s) s) := by
          rw [e1, w64 (by omega) (by omega)]
          have h := times9_ev (a := x.tdiv s + 1) (b := s) (by unfold I64; omega) hs
          have em : (x.tdiv s + 1) * s = x - x.tmod s + s := by rw [Int.add_mul, Int.one_mul]; omega
          have ee : mulS (x.tdiv s + 1) s = addS (x - x.tmod s) s := by
            unfold mulS addS
            rw [em]
            by_cases hh : May (x - x.tmod s + s)
            · rw [if_pos ⟨by unfold May; omega, by unfold May; omega, hh⟩, if_pos ⟨by unfold May; omega, by unfold May; omega, hh⟩]
            · rw [if_neg (fun h9 => hh h9.2.2), if_neg (fun h9 => hh h9.2.2)]
          rw [ee] at h
          exact Ev.bind h (Ev.now _)
        have yes : Away x s m → Ev (fun k => (oculusref09_times.f k (wrap64 (x / s + 1)) s).bind fun b => some (b.1, b.2)) (if Away x s m then addS (x - x.tmod s) s else (x - x.tmod s, true)) := fun h => by rw [if_pos h]; exact up
        have nay : ¬ Away x s m → Ev (fun k => (oculusref09_times.f k (x / s) s).bind fun b => some (b.1, b.2)) (if Away x s m then addS (x - x.tmod s) s else (x - x.tmod s, true)) := fun h => by rw [if_neg h]; exact dn
        refine Ev.neg hr ?_
        repeat' first | refine Ev.ite (fun _ => ?_) (fun _ => ?_)
        all_goals first
          | (exfalso; omega)
          | (refine yes ?_; unfold Away; omega)
          | (refine nay ?_; unfold Away; omega)
end Go.Proofs.Ytmagefemmhfkaaa.Q

namespace Go.Proofs.Ytmagefemmhfkaaa.Q
open Go Go.RowKit Go.Proofs.Ytmagefemmhfkaaa.PA Go.Proofs.YtmagefemmhfkaaaW.PrintWords Go.Proofs.YtmagefemmhfkaaaW.PrintLast Go.Proofs.YtmagefemmhfkaaaW.PrintMore
set_option linter.unusedVariables false
set_option linter.unusedSimpArgs false
theorem tmod_bound (a : Int) {b : Int} (hb : b ≠ 0) : ((a.tmod b).natAbs : Int) < b.natAbs := by
  rcases (by omega : b < 0 ∨ 0 < b) with h | h
  · have t := tdm a (m := -b) (by omega)
    rw [Int.tmod_neg] at t
    omega
  · have t := tdm a h
    omega
def modS (a b : Int) : Int × Bool :=
  if b ≠ 0 ∧ May a ∧ May b then (if a.tmod b ≠ 0 ∧ ¬ (a.tmod b < 0 ↔ b < 0) then (a.tmod b + b, true) else (a.tmod b, true)) else (0, false)
theorem modS_ok {a b : Int} (h : b ≠ 0 ∧ May a ∧ May b) : modS a b = if a.tmod b ≠ 0 ∧ ¬ (a.tmod b < 0 ↔ b < 0) then (a.tmod b + b, true) else (a.tmod b, true) := if_pos h
theorem mod_ev {a b : Int} (ha : I64 a) (hb : I64 b) : Ev (fun k => round_Mod.f k a b) (modS a b) := by
  have no : ¬ (b ≠ 0 ∧ May a ∧ May b) → Ev (fun k => round_Mod.j0 k a b true) (modS a b) := fun h => by
    rw [modS, if_neg h]; exact Ev.step (fun k => by rw [round_Mod.j0]) (Ev.pos rfl (Ev.now _))
  refine Ev.congr (fun k => by rw [round_Mod.f]) ?_
  refine Ev.ite (fun h => no (fun hh => hh.1 h)) (fun h0 => ?_)
  refine Ev.some_bind (may_f ha.1 ha.2) ?_
  refine Ev.ite (fun h => ?_) (fun h => no (fun hh => h (decide_eq_true hh.2.1)))
  have h1 := of_decide_eq_true h
  refine Ev.some_bind (may_f hb.1 hb.2) ?_
  by_cases h2 : May b
  · rw [decide_eq_true h2, Bool.not_true]
    have m1 := h1; have m2 := h2
    unfold May at m1 m2
    have tb := tmod_bound a h0
    refine Ev.step (fun k => by rw [round_Mod.j0]) (Ev.neg (by decide) (Ev.neg h0 ?_))
    rw [modS_ok ⟨h0, h1, h2⟩]
    refine Ev.ite (fun h => ?_) (fun h => ?_)
    · rw [if_neg (fun hh => hh.1 h)]; exact Ev.now _
    · refine Ev.ite (fun h3 => ?_) (fun h3 => ?_)
      · have h4 : ¬ (a.tmod b < 0 ↔ b < 0) := fun h5 => by simp [h5] at h3
        rw [if_pos ⟨h, h4⟩, w64 (by omega) (by omega)]; exact Ev.now _
      · have h4 : (a.tmod b < 0 ↔ b < 0) := by
          by_cases h5 : a.tmod b < 0 <;> by_cases h6 : b < 0 <;> simp [h5, h6] at h3 ⊢
        rw [if_neg (fun hh => hh.2 h4)]; exact Ev.now _
  · rw [decide_eq_false h2, Bool.not_false]
    exact no (fun hh => h2 hh.2.2)
theorem rmod_ev {a b : Int} (ha : I64 a) (hb : I64 b) : Ev (fun k => oculusref09_Mod.f k a b) (modS a b) := by
  have no : ¬ (b ≠ 0 ∧ May a ∧ May b) → Ev (fun k => oculusref09_Mod.j0 k a b true) (modS a b) := fun h => by
    rw [modS, if_neg h]; exact Ev.step (fun k => by rw [oculusref09_Mod.j0]) (Ev.pos rfl (Ev.now _))
  refine Ev.congr (fun k => by rw [oculusref09_Mod.f]) ?_
  refine Ev.ite (fun h => no (fun hh => hh.1 h)) (fun h0 => ?_)
  refine Ev.some_bind (rmay_f ha.1 ha.2) ?_
  refine Ev.ite (fun h => ?_) (fun h => no (fun hh => h (decide_eq_true hh.2.1)))
  have h1 := of_decide_eq_true h
  refine Ev.some_bind (rmay_f hb.1 hb.2) ?_
  by_cases h2 : May b
  · rw [decide_eq_true h2, Bool.not_true]
    have m1 := h1; have m2 := h2
    unfold May at m1 m2
    have tb := tmod_bound a h0
    refine Ev.step (fun k => by rw [oculusref09_Mod.j0]) (Ev.neg (by decide) (Ev.neg h0 ?_))
    rw [modS_ok ⟨h0, h1, h2⟩]
    have yes : a.tmod b ≠ 0 ∧ ¬ (a.tmod b < 0 ↔ b < 0) → Ev (fun k => some (wrap64 (a.tmod b + b), true)) (if a.tmod b ≠ 0 ∧ ¬ (a.tmod b < 0 ↔ b < 0) then (a.tmod b + b, true) else (a.tmod b, true)) := fun h => by rw [if_pos h, w64 (by omega) (by omega)]; exact Ev.now _
    have nay : ¬ (a.tmod b ≠ 0 ∧ ¬ (a.tmod b < 0 ↔ b < 0)) → Ev (fun k => some (a.tmod b, true)) (if a.tmod b ≠ 0 ∧ ¬ (a.tmod b < 0 ↔ b < 0) then (a.tmod b + b, true) else (a.tmod b, true)) := fun h => by rw [if_neg h]; exact Ev.now _
    repeat' first | refine Ev.ite (fun _ => ?_) (fun _ => ?_)
    all_goals first
      | (exfalso; omega)
      | (refine yes ?_; omega)
      | (refine nay ?_; omega)
  · rw [decide_eq_false h2, Bool.not_false]
    exact no (fun hh => h2 hh.2.2)
def quotS (a b : Int) : Int × Bool := if b ≠ 0 ∧ May a ∧ May b then mulS (a.tdiv b) 10000 else (0, false)
theorem of_ev {a : Int} (ha : I64 a) : Ev (fun k => dec_Of.f k a) (mulS a 10000) := by
  have h := scaled_ev ha.1 ha.2 (b := 10000) (by decide) (by decide) (c := 1) (by decide) (by decide)
  rw [scaledP_one] at h
  exact Ev.congr (fun k => by rw [dec_Of.f]) (Ev.bind h (Ev.now _))
theorem tdiv_i {a b : Int} (ha : I64 a) (h : May a) : I64 (a.tdiv b) := by
  have := Int.natAbs_tdiv_le_natAbs a b
  unfold May at h
  unfold I64
  omega
theorem quot_ev {a b : Int} (ha : I64 a) (hb : I64 b) : Ev (fun k => round_Quot.f k a b) (quotS a b) := by
  have no : ¬ (b ≠ 0 ∧ May a ∧ May b) → Ev (fun k => some (0, false)) (quotS a b) := fun h => by
    rw [quotS, if_neg h]; exact Ev.now _
  refine Ev.congr (fun k => by rw [round_Quot.f]) ?_
  refine Ev.ite (fun h => no (fun hh => hh.1 h)) (fun h0 => ?_)
  refine Ev.some_bind (may_f ha.1 ha.2) ?_
  refine Ev.ite (fun h => ?_) (fun h => no (fun hh => h (decide_eq_true hh.2.1)))
  refine Ev.some_bind (may_f hb.1 hb.2) ?_
  refine Ev.ite (fun h2 => ?_) (fun h2 => no (fun hh => h2 (decide_eq_true hh.2.2)))
  have hi := tdiv_i (b := b) ha (of_decide_eq_true h)
  rw [show quotS a b = mulS (a.tdiv b) 10000 from if_pos ⟨h0, of_decide_eq_true h, of_decide_eq_true h2⟩, w64 hi.1 hi.2]
  exact Ev.bind (of_ev hi) (Ev.now _)
theorem rquot_ev {a b : Int} (ha : I64 a) (hb : I64 b) : Ev (fun k => oculusref09_Quot.f k a b) (quotS a b) := by
  have no : ¬ (b ≠ 0 ∧ May a ∧ May b) → Ev (fun k => some (0, false)) (quotS a b) := fun h => by
    rw [quotS, if_neg h]; exact Ev.now _
  refine Ev.congr (fun k => by rw [oculusref09_Quot.f]) ?_
  refine Ev.ite (fun h => no (fun hh => hh.1 h)) (fun h0 => ?_)
  refine Ev.some_bind (rmay_f ha.1 ha.2) ?_
  refine Ev.ite (fun h => ?_) (fun h => no (fun hh => h (decide_eq_true hh.2.1)))
  refine Ev.some_bind (rmay_f hb.1 hb.2) ?_
  refine Ev.ite (fun h2 => ?_) (fun h2 => no (fun hh => h2 (decide_eq_true hh.2.2)))
  have hi := tdiv_i (b := b) ha (of_decide_eq_true h)
  rw [show quotS a b = mulS (a.tdiv b) 10000 from if_pos ⟨h0, of_decide_eq_true h, of_decide_eq_true h2⟩, w64 hi.1 hi.2]
  exact Ev.bind (times9_ev hi (by unfold I64; omega)) (Ev.now _)
theorem even_ev {a : Int} (ha : I64 a) : Ev (fun k => round_Even.f k a) (stepS a 20000 3) :=
  Ev.congr (fun k => by rw [round_Even.f]) (Ev.bind (step_ev ha (by unfold I64; omega)) (Ev.now _))
def oddN (n : Int) : Int := if (2 * (n / 20000) + 1) * 10000 < n then (2 * (n / 20000) + 3) * 10000 else (2 * (n / 20000) + 1) * 10000
def oddS (x : Int) : Int × Bool :=
  if May x then (if oddN x.natAbs ≤ 9223372036854775807 then (if x < 0 then -oddN x.natAbs else oddN x.natAbs, true) else (0, false)) else (0, false)
theorem up_even {y : Int} (hy : May y) : stepS y 20000 3 = if y.tmod 20000 = 0 then (y, true) else addS (y - y.tmod 20000) (if y < 0 then -20000 else 20000) := by
  rw [stepS, if_pos ⟨by decide, hy, by decide, by decide⟩]
  by_cases h : y.tmod 20000 = 0
  · rw [if_pos h, if_pos h]
  · rw [if_neg h, if_neg h, if_pos (.inr (.inl rfl))]
theorem odd_j0 {x : Int} (hx : May x) : Ev (fun k => round_Odd.j0 k x (if x < 0 then -10000 else 10000)) (oddS x) := by
  have m1 := hx
  unfold May at m1
  have hone : I64 (if x < 0 then -10000 else 10000) := by unfold I64; split <;> decide
  have hs : subS x (if x < 0 then -10000 else 10000) = (x - (if x < 0 then -10000 else 10000), true) := by
    rw [subS, if_pos ⟨hx, by unfold May; split <;> decide, by unfold May; split <;> omega⟩]
  refine Ev.step (fun k => by rw [round_Odd.j0]) (Ev.some_bind (sub_f hx.i hone) ?_)
  rw [hs]
  refine Ev.pos rfl (Ev.some_bind (sign_f _) (Ev.some_bind (sign_f _) ?_))
  rw [show oddS x = (if oddN x.natAbs ≤ 9223372036854775807 then (if x < 0 then -oddN x.natAbs else oddN x.natAbs, true) else (0, false)) from if_pos hx]
  have hy : May (x - (if x < 0 then -10000 else 10000)) := by unfold May; split <;> omega
  have t := tdm (x - (if x < 0 then -10000 else 10000)) (m := 20000) (by decide)
  have he := even_ev hy.i
  rw [up_even hy] at he
  by_cases hn : x < 0
  · simp only [if_pos hn] at *
    by_cases hsm : x - -10000 > 0
    · refine Ev.pos (by rw [if_neg (by omega), if_pos hsm]; simp [wrap64]) ?_
      have e : oddN x.natAbs = 10000 := by unfold oddN; omega
      rw [e, if_pos (by decide)]
      exact Ev.now _
    · refine Ev.neg (by
        by_cases h0 : x - -10000 < 0
        · rw [if_pos h0]; simp [wrap64]
        · rw [if_neg h0, if_neg hsm]; simp [wrap64]) ?_
      refine Ev.bind he ?_
      by_cases hr : (x - -10000).tmod 20000 = 0
      · rw [if_pos hr]
        refine Ev.pos rfl (Ev.some_bind (add_f hy.i hone) ?_)
        have e : oddN x.natAbs = -(x - -10000 + -10000) := by unfold oddN; omega
        rw [e, addS_yes ⟨hy, by decide, by unfold May; omega⟩, if_pos (by omega), Int.neg_neg]
        exact Ev.now _
      · rw [if_neg hr]
        by_cases hz : x - -10000 < 0
        · rw [if_pos hz]
          by_cases hf : May (x - -10000 - (x - -10000).tmod 20000 + -20000)
          · have hf' := hf
            unfold May at hf'
            rw [addS_yes ⟨by unfold May; omega, by decide, hf⟩]
            refine Ev.pos rfl (Ev.some_bind (add_f hf.i hone) ?_)
            have e : oddN x.natAbs = -(x - -10000 - (x - -10000).tmod 20000 + -20000 + -10000) := by unfold oddN; omega
            rw [e]
            by_cases hg : May (x - -10000 - (x - -10000).tmod 20000 + -20000 + -10000)
            · have hg' := hg
              unfold May at hg'
              rw [addS_yes ⟨hf, by decide, hg⟩, if_pos (by omega), Int.neg_neg]; exact Ev.now _
            · have hg' := hg
              unfold May at hg'
              rw [addS_no hg, if_neg (by omega)]; exact Ev.now _
          · have hf' := hf
            unfold May at hf'
            rw [addS_no hf]
            have e : oddN x.natAbs = -(x - -10000 - (x - -10000).tmod 20000 + -20000 + -10000) := by unfold oddN; omega
            rw [show (if oddN x.natAbs ≤ 9223372036854775807 then (-oddN x.natAbs, true) else (0, false)) = (0, false) from if_neg (by rw [e]; omega)]
            exact Ev.neg (by decide) (Ev.now _)
        · exfalso; omega
  · simp only [if_neg hn] at *
    by_cases hsm : x - 10000 < 0
    · refine Ev.pos (by rw [if_pos hsm]; simp [wrap64]) ?_
      have e : oddN x.natAbs = 10000 := by unfold oddN; omega
      rw [e, if_pos (by decide)]
      exact Ev.now _
    · refine Ev.neg (by
        by_cases h0 : x - 10000 > 0
        · rw [if_neg hsm, if_pos h0]; simp [wrap64]
        · rw [if_neg hsm, if_neg h0]; simp [wrap64]) ?_
      refine Ev.bind he ?_
      by_cases hr : (x - 10000).tmod 20000 = 0
      · rw [if_pos hr]
        refine Ev.pos rfl (Ev.some_bind (add_f hy.i hone) ?_)
        have e : oddN x.natAbs = x - 10000 + 10000 := by unfold oddN; omega
        rw [e, addS_yes ⟨hy, by decide, by unfold May; omega⟩, if_pos (by omega)]
        exact Ev.now _
      · rw [if_neg hr]
        rw [if_neg hsm]
        by_cases hf : May (x - 10000 - (x - 10000).tmod 20000 + 20000)
        · have hf' := hf
          unfold May at hf'
          rw [addS_yes ⟨by unfold May; omega, by decide, hf⟩]
          refine Ev.pos rfl (Ev.some_bind (add_f hf.i hone) ?_)
          have e : oddN x.natAbs = x - 10000 - (x - 10000).tmod 20000 + 20000 + 10000 := by unfold oddN; omega
          rw [e]
          by_cases hg : May (x - 10000 - (x - 10000).tmod 20000 + 20000 + 10000)
          · have hg' := hg
            unfold May at hg'
            rw [addS_yes ⟨hf, by decide, hg⟩, if_pos (by omega)]; exact Ev.now _
          · have hg' := hg
            unfold May at hg'
            rw [addS_no hg, if_neg (by omega)]; exact Ev.now _
        · have hf' := hf
          unfold May at hf'
          rw [addS_no hf]
          have e : oddN x.natAbs = x - 10000 - (x - 10000).tmod 20000 + 20000 + 10000 := by unfold oddN; omega
          rw [show (if oddN x.natAbs ≤ 9223372036854775807 then (oddN x.natAbs, true) else (0, false)) = (0, false) from if_neg (by rw [e]; omega)]
          exact Ev.neg (by decide) (Ev.now _)
theorem odd_ev {x : Int} (hx : I64 x) : Ev (fun k => round_Odd.f k x) (oddS x) := by
  have key : Ev (fun k => round_Odd.j0 k x (if x < 0 then -10000 else 10000)) (oddS x) := by
    by_cases h : May x
    · exact odd_j0 h
    · rw [oddS, if_neg h]
      have hone : I64 (if x < 0 then -10000 else 10000) := by unfold I64; split <;> decide
      refine Ev.step (fun k => by rw [round_Odd.j0]) (Ev.some_bind (sub_f hx hone) ?_)
      rw [subS, if_neg (fun hh => h hh.1)]
      exact Ev.neg (by decide) (Ev.now _)
  refine Ev.congr (fun k => by rw [round_Odd.f]) ?_
  refine Ev.ite (fun h => ?_) (fun h => ?_)
  · rw [if_pos h] at key; exact key
  · rw [if_neg h] at key; exact key
theorem rodd_ev {x : Int} (hx : I64 x) : Ev (fun k => oculusref09_Odd.f k x) (oddS x) := by
  refine Ev.congr (fun k => by rw [oculusref09_Odd.f]) (Ev.some_bind (rmay_f hx.1 hx.2) ?_)
  refine Ev.ite (fun h => ?_) (fun h => ?_)
  · have hm := of_decide_eq_true h
    have m1 := hm
    unfold May at m1
    refine Ev.some_bind (abs_f x m1.1 m1.2) ?_
    have hn : wrap64 (x.natAbs : Int) = x.natAbs := w64 (by omega) (by omega)
    rw [hn, Int.tdiv_eq_ediv_of_nonneg (by omega), w64 (x := (x.natAbs : Int) / 20000) (by omega) (by omega), w64 (x := 2 * ((x.natAbs : Int) / 20000)) (by omega) (by omega), w64 (x := 2 * ((x.natAbs : Int) / 20000) + 1) (by omega) (by omega)]
    have h1 := rscaled_ev (a := 2 * ((x.natAbs : Int) / 20000) + 1) (by omega) (by omega) (b := 10000) (by decide) (by decide) (c := 1) (by decide) (by decide)
    have h3 := rscaled_ev (a := 2 * ((x.natAbs : Int) / 20000) + 3) (by omega) (by omega) (b := 10000) (by decide) (by decide) (c := 1) (by decide) (by decide)
    rw [scaledR_one] at h1 h3
    refine Ev.bind h1 ?_
    rw [show oddS x = (if oddN x.natAbs ≤ 9223372036854775807 then (if x < 0 then -oddN x.natAbs else oddN x.natAbs, true) else (0, false)) from if_pos hm]
    by_cases hf : (2 * ((x.natAbs : Int) / 20000) + 1) * 10000 ≤ 9223372036854775807
    · rw [mulS_yes ⟨by unfold May; omega, by decide, by unfold May; omega⟩]
      refine Ev.pos rfl ?_
      by_cases hl : (2 * ((x.natAbs : Int) / 20000) + 1) * 10000 < x.natAbs
      · rw [decide_eq_true hl]
        have e : oddN x.natAbs = (2 * ((x.natAbs : Int) / 20000) + 3) * 10000 := if_pos hl
        rw [e]
        refine Ev.step (fun k => by rw [oculusref09_Odd.j0]) (Ev.pos rfl ?_)
        rw [w64 (x := 2 * ((x.natAbs : Int) / 20000)) (by omega) (by omega), w64 (x := 2 * ((x.natAbs : Int) / 20000) + 3) (by omega) (by omega)]
        refine Ev.bind h3 ?_
        by_cases hg : (2 * ((x.natAbs : Int) / 20000) + 3) * 10000 ≤ 9223372036854775807
        · rw [mulS_yes ⟨by unfold May; omega, by decide, by unfold May; omega⟩, if_pos hg]
          refine Ev.ite (fun h => ?_) (fun h => ?_)
          · rw [if_pos h, w64 (by omega) (by omega)]; exact Ev.now _
          · rw [if_neg h]; exact Ev.now _
        · rw [mulS_no (fun hh => hg (by unfold May at hh; omega)), if_neg hg]
          refine Ev.ite (fun h => ?_) (fun h => ?_)
          · exact ⟨0, fun _ _ => by simp [wrap64]⟩
          · exact Ev.now _
      · rw [decide_eq_false hl]
        have e : oddN x.natAbs = (2 * ((x.natAbs : Int) / 20000) + 1) * 10000 := if_neg hl
        rw [e, if_pos hf]
        refine Ev.step (fun k => by rw [oculusref09_Odd.j0]) (Ev.neg (by decide) ?_)
        refine Ev.ite (fun h => ?_) (fun h => ?_)
        · rw [if_pos h, w64 (by omega) (by omega)]; exact Ev.now _
        · rw [if_neg h]; exact Ev.now _
    · rw [mulS_no (fun hh => hf (by unfold May at hh; omega)), show (if oddN x.natAbs ≤ 9223372036854775807 then (if x < 0 then -oddN x.natAbs else oddN x.natAbs, true) else (0, false)) = (0, false) from if_neg (by unfold oddN; split <;> omega)]
      refine Ev.neg (by decide) ?_
      refine Ev.step (fun k => by rw [oculusref09_Odd.j0]) (Ev.neg (by decide) ?_)
      refine Ev.ite (fun h => ?_) (fun h => ?_)
      · exact ⟨0, fun _ _ => by simp [wrap64]⟩
      · exact Ev.now _
  · rw [oddS, if_neg (fun hh => h (decide_eq_true hh))]
    exact Ev.now _
end Go.Proofs.Ytmagefemmhfkaaa.Q

namespace Go.Proofs.Ytmagefemmhfkaaa.Pure
open Go Go.RowKit Go.Proofs.Ytmagefemmhfkaaa.PA Go.Proofs.YtmagefemmhfkaaaW.PrintWords Go.Proofs.YtmagefemmhfkaaaW.PrintLast Go.Proofs.YtmagefemmhfkaaaW.PrintMore Go.Proofs.Ytmagefemmhfkaaa.Q
set_option linter.unusedVariables false
set_option linter.unusedSimpArgs false
theorem ten_le {i : Nat} (h : i ≤ 18) : 10 ^ i ≤ 1000000000000000000 := Nat.pow_le_pow_right (by decide) h
theorem ten_next {i : Nat} (h : i < 18) : wrap64 (((10 ^ i : Nat) : Int) * 10) = ((10 ^ (i + 1) : Nat) : Int) := by
  have h1 := ten_le (i := i + 1) (by omega)
  have h2 : 10 ^ (i + 1) = 10 ^ i * 10 := Nat.pow_succ ..
  generalize 10 ^ (i + 1) = q at *
  generalize 10 ^ i = p at *
  subst h2
  rw [w64 (by omega) (by omega)]
  omega
theorem ten_i {i : Nat} (h : i ≤ 18) : I64 ((10 ^ i : Nat) : Int) := by
  have := ten_le h
  generalize 10 ^ i = p at *
  unfold I64
  omega
theorem places_l0 {x md : Int} (hx : I64 x) {m : Nat} (hm : m ≤ 18) (d : Nat) : ∀ i : Nat, i + d = m → Ev (fun k => round_Places.l0 k x md ((10 ^ i : Nat) : Int) (m : Int) (i : Int)) (stepS x ((10 ^ m : Nat) : Int) md) := by
  induction d with
  | zero =>
    intro i h
    obtain rfl : i = m := by omega
    refine Ev.step (fun k => by rw [round_Places.l0]) (Ev.neg (by omega) ?_)
    exact Ev.bind (step_ev hx (ten_i hm)) (Ev.now _)
  | succ d ih =>
    intro i h
    refine Ev.step (fun k => by rw [round_Places.l0]) (Ev.pos (by omega) ?_)
    rw [ten_next (by omega), w64 (x := (i : Int) + 1) (by omega) (by omega)]
    exact ih (i + 1) (by omega)
theorem rplaces_l0 {x md : Int} (hx : I64 x) {m : Nat} (hm : m ≤ 18) (d : Nat) : ∀ (i : Nat) (p : Int), i + d = m → (p = 4 - (d : Int) ∨ d = 0 ∧ 4 ≤ p) → Ev (fun k => oculusref09_Places.l0 k x p md ((10 ^ i : Nat) : Int)) (stepS x ((10 ^ m : Nat) : Int) md) := by
  induction d with
  | zero =>
    intro i p h hp
    obtain rfl : i = m := by omega
    refine Ev.step (fun k => by rw [oculusref09_Places.l0]) (Ev.neg (by omega) ?_)
    exact Ev.bind (rstep_ev hx (ten_i hm)) (Ev.now _)
  | succ d ih =>
    intro i p h hp
    refine Ev.step (fun k => by rw [oculusref09_Places.l0]) (Ev.pos (by omega) ?_)
    rw [ten_next (by omega), w64 (x := p + 1) (by omega) (by omega)]
    exact ih (i + 1) _ (by omega) (by omega)
def placesS (x p md : Int) : Int × Bool := if p < -14 then (0, false) else stepS x ((10 ^ (4 - mn p 4).toNat : Nat) : Int) md
theorem places_ev {x p md : Int} (hx : I64 x) : Ev (fun k => round_Places.f k x p md) (placesS x p md) := by
  refine Ev.congr (fun k => by rw [round_Places.f]) ?_
  unfold placesS
  refine Ev.ite (fun h => ?_) (fun h => ?_)
  · rw [if_pos h]; exact Ev.now _
  · rw [if_neg h]
    have hb : 0 ≤ 4 - mn p 4 ∧ 4 - mn p 4 ≤ 18 := by unfold mn; split <;> omega
    rw [w64 (x := 4 - mn p 4) (by omega) (by omega)]
    have := places_l0 (md := md) hx (m := (4 - mn p 4).toNat) (by omega) (4 - mn p 4).toNat 0 (Nat.zero_add _)
    rw [show (((4 - mn p 4).toNat : Nat) : Int) = 4 - mn p 4 by omega] at this
    exact this
theorem rplaces_ev {x p md : Int} (hx : I64 x) : Ev (fun k => oculusref09_Places.f k x p md) (placesS x p md) := by
  refine Ev.congr (fun k => by rw [oculusref09_Places.f]) ?_
  unfold placesS
  refine Ev.ite (fun h => ?_) (fun h => ?_)
  · rw [if_pos h]; exact Ev.now _
  · rw [if_neg h]
    exact rplaces_l0 hx (by unfold mn; split <;> omega) (4 - mn p 4).toNat 0 p (Nat.zero_add _) (by unfold mn; split <;> omega)
theorem RoundSteps (x s a b : Int) (wx : (Lit.int .i64 x).wf = true) (ws : (Lit.int .i64 s).wf = true) : ∃ k, oculuslaw09_RoundSteps.f k x s a b = some true := by
  have hx : I64 x := i64_of_wf wx
  have hs : I64 s := i64_of_wf ws
  have r : ∀ b : Bool, (b == b) = true := by decide
  refine Ev.rounds (g := fun k => oculuslaw09_RoundSteps.f k x s a b) (r := true) ?_
  refine Ev.congr (fun k => by rw [oculuslaw09_RoundSteps.f]) ?_
  refine Ev.bind (step_ev hx hs) ?_
  refine Ev.bind (rstep_ev hx hs) ?_
  refine Ev.bind (places_ev hx) ?_
  refine Ev.bind (rplaces_ev hx) ?_
  refine Ev.bind (Ev.congr (fun k => by rw [round_Int.f]) (Ev.bind (step_ev hx (by unfold I64; omega)) (Ev.now _))) ?_
  refine Ev.bind (rstep_ev hx (by unfold I64; omega)) ?_
  exact Ev.pos rfl (Ev.pos (r _) (Ev.pos rfl (Ev.pos (r _) (Ev.pos rfl (Ev.pos (r _) (Ev.bind alive09 (Ev.now _)))))))
end Go.Proofs.Ytmagefemmhfkaaa.Pure

namespace Go.Proofs.Ytmagefemmhfkaaa.roundSteps
open Go.ChangeShapes Go.WideShapes Go.ChangeAt Go.RowKit
set_option linter.unusedVariables false
theorem own : ownKnob Try.prog.godebug = none := by kernel_rfl
theorem laidOut : laidOutB Try.prog = true := by kernel_rfl
set_option maxRecDepth 100000 in
theorem lifted (os : Os) (started : os.Started) (H : Type) (enc : TypeId × Value → H) :
    ReturnsInHanded {} Try.checked os 4 .any (Rows.roundStepsSpec.pre6 enc Try.prog Try.f4 Rows.roundStepsRow.domain false) (Rows.roundStepsSpec.post enc Try.prog Try.f4 false true false false) := by
  refine returnsInHanded_of_change_sized (C := Try.checked) own started (by kernel_rfl) Try.func4
    (ChangeSpec.witness6 (enc := enc) (C := Try.checked) false ⟨#[], #[.int .i64 0, .int .i64 0, .agg #[.int .i64 0, .int .i64 0]], []⟩ 8 (by kernel_rfl) (by kernel_rfl) (by kernel_rfl) (by kernel_rfl)) ?_
  intro W base args ds gs before hval0 hW hcnd hsz0 _
  have hval : ∀ (j : Nat) t v, Try.f4.params[j]? = some t → args[j]? = some v → Value.okWide Try.prog W .any base t v := hval0
  have hW' := hW
  obtain ⟨p, q, hA0, hV, rfl, hfz, hnd⟩ := hW
  have hA : DataW.TrodAll enc Try.prog W 0 (fun _ => true) true Try.f4.params.toList args.toList ds p := hA0
  rw [Try.params4] at hA hval
  obtain ⟨v0, vs0, d0, ds0, p0, q0, hargs, rfl, rfl, h0, r0⟩ := trodAll_cons hA
  obtain ⟨v1, vs1, d1, ds1, p1, q1, rfl, rfl, rfl, h1, r1⟩ := trodAll_cons r0
  obtain ⟨v2, vs2, d2, ds2, p2, q2, rfl, rfl, rfl, h2, r2⟩ := trodAll_cons r1
  obtain ⟨rfl, rfl, rfl⟩ := trodAll_nil r2
  obtain rfl : args = #[v0, v1, v2] := by cases args; simp_all
  obtain ⟨rfl, rfl⟩ := trodVars_none hV
  obtain ⟨a0, rfl, rfl, rfl, w0⟩ := open_int Try.underlying2 (hval 0 2 v0 rfl rfl) h0
  obtain ⟨a1, rfl, rfl, rfl, w1⟩ := open_int Try.underlying2 (hval 1 2 v1 rfl rfl) h1
  have k2 := h2
  have lt2 : ∀ x ∈ p2, x.block < W.heap.size := by obtain ⟨m, hm⟩ := k2; exact DataW.trod_lt m _ _ _ hm
  obtain ⟨a, b, rfl, wa, wb⟩ := YtmagefemmhfkaaaW.XArr.open_arr2 (q := .i64) Try.underlying28 Try.underlying3 (by kernel_rfl) (by kernel_rfl) (hval 2 28 v2 rfl rfl) h2
  clear hA0 hval0 hsz0
  obtain ⟨k, h⟩ := Pure.RoundSteps a0 a1 a b w0 w1
  refine (PA.oculuslaw09_RoundSteps.calls k a0 a1 a b true W h).mono fun e W' he0 => ?_
  obtain ⟨he, bel⟩ := he0
  subst he
  exact ⟨_, rfl, _, _, _, [], _, [], hW', trodAll_mk1 (shut_bool Try.underlying4 _), (trodAll_cons_mk (shut_int Try.underlying2 w0) (trodAll_cons_mk (shut_int Try.underlying2 w1) (trodAll_cons_mk (Below.trod laidOut (by kernel_rfl) (of_decide_eq_true (by kernel_rfl)) k2 bel lt2) trodAll_mk0))), rfl, bel.frame _, fun h => by cases h⟩
theorem over : Rows.roundStepsRow.holds Try.pinned (OpenSpec.ofChange Rows.roundStepsSpec) :=
  OpenClaim.holds_of_wide 4 Try.f4 rfl rfl rfl rfl rfl rfl rfl ⟨rfl, rfl, rfl, rfl, rfl⟩ rfl rfl rfl rfl rfl (by kernel_rfl) Try.func4 (by kernel_rfl)
    (of_decide_eq_true (by kernel_rfl)) (by unfold Func.isWrapper; first | (rw [if_pos (by decide +kernel)]; kernel_rfl) | (rw [if_neg (by decide +kernel)]; exact ⟨rfl, rfl⟩))
    (fun os started H enc _ => lifted os started H enc)
theorem proved : Rows.RoundStepsSaid := over
end Go.Proofs.Ytmagefemmhfkaaa.roundSteps
namespace Go.Proofs.Ytmagefemmhfkaaa
theorem roundSteps_holds : Rows.RoundStepsSaid := roundSteps.proved
end Go.Proofs.Ytmagefemmhfkaaa
