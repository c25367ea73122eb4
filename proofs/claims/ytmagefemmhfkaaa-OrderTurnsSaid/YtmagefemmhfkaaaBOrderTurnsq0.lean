/- OrderTurns: the order of numbers changes nothing of the middle, of places, and of how often the one most often there is there; whose rank is k is the one at the place k from the greatest on. -/
import Derived.Test.YtmagefemmhfkaaaBOrderTurnsw
import Derived.Test.YtmagefemmhfkaaaBOrderTurnsp2
import Derived.Test.YtmagefemmhfkaaaBOrderTurnsp0
import Derived.Test.YtmagefemmhfkaaaBOrderTurnsp3
import Derived.Test.YtmagefemmhfkaaaBOrderTurnsp4
import Derived.Test.YtmagefemmhfkaaaBOrderTurnsp1
import Derived.KernelRfl
import Derived.Test.YtmagefemmhfkaaaBOrderTurnsp5
import Derived.Test.YtmagefemmhfkaaaBOrderTurnsp6
import Derived.Test.YtmagefemmhfkaaaBOrderTurnsp7
import Derived.Test.YtmagefemmhfkaaaRows
import Derived.WalkKit
import Derived.ProofKit
import Derived.OpenShut
import Derived.ShutString
import Derived.ChangeOld
import Derived.Below
import Derived.SizedLaws

namespace Go.Proofs.Ytmagefemmhfkaaa.Q
open Go Go.RowKit Go.Proofs.YtmagefemmhfkaaaW.PrintWords
theorem i64_of_wf {x : Int} (h : (Lit.int .i64 x).wf = true) : -9223372036854775808 ≤ x ∧ x ≤ 9223372036854775807 := by
  simp [Lit.wf, IntKind.min, IntKind.max, IntKind.bits, IntKind.signed] at h
  omega
theorem w64 {x : Int} (h0 : -9223372036854775808 ≤ x) (h1 : x ≤ 9223372036854775807) : wrap64 x = x := by
  unfold wrap64; omega
theorem u64w (x : Int) : IntKind.u64.wrap x = x % 18446744073709551616 := by
  simp [IntKind.wrap, IntKind.bits, IntKind.signed]
theorem u64i {x : Int} (h0 : 0 ≤ x) (h : x < 18446744073709551616) : IntKind.u64.wrap x = x := by
  rw [u64w]; omega
theorem and32 {a : Int} (h0 : 0 ≤ a) (h1 : a < 18446744073709551616) : Go.bits .and .u64 a 4294967295 = a % 4294967296 :=
  bits_mask .u64 64 (by decide) (fun n h0 h1 => u64i h0 (by simpa using h1)) 32 (by decide) a h0 (by simpa using h1)
theorem prodB {x y : Int} (hx0 : 0 ≤ x) (hx : x ≤ 4294967295) (hy0 : 0 ≤ y) (hy : y ≤ 4294967295) : 0 ≤ x * y ∧ x * y ≤ 18446744065119617025 :=
  ⟨Int.mul_nonneg hx0 hy0, Int.le_trans (Int.mul_le_mul hx hy hy0 (by decide)) (by decide)⟩
end Go.Proofs.Ytmagefemmhfkaaa.Q

namespace Go.Proofs.Ytmagefemmhfkaaa.Q
open Go Go.RowKit Go.Proofs.YtmagefemmhfkaaaW.PrintWords Go.Proofs.YtmagefemmhfkaaaW.PrintLast Go.Proofs.YtmagefemmhfkaaaW.PrintMore
set_option linter.unusedVariables false
set_option linter.unusedSimpArgs false
theorem Ev.pos {α : Type} {c : Prop} {inst : Decidable c} {f g : Nat → Option α} {r : α} (h : c) (k : Ev f r) : Ev (fun n => if c then f n else g n) r := by
  simpa only [if_pos h] using k
theorem Ev.neg {α : Type} {c : Prop} {inst : Decidable c} {f g : Nat → Option α} {r : α} (h : ¬ c) (k : Ev g r) : Ev (fun n => if c then f n else g n) r := by
  simpa only [if_neg h] using k
theorem Ev.ite {α : Type} {c : Prop} {inst : Decidable c} {f g : Nat → Option α} {r : α} (h : c → Ev f r) (k : ¬ c → Ev g r) : Ev (fun n => if c then f n else g n) r := by
  by_cases hc : c
  · exact Ev.pos hc (h hc)
  · exact Ev.neg hc (k hc)
theorem Ev.some_bind {α β : Type} {a : α} {x : Option α} {f : Nat → α → Option β} {r : β} (h : x = some a) (k : Ev (fun n => f n a) r) : Ev (fun n => x.bind (f n)) r := by
  subst h; exact k
end Go.Proofs.Ytmagefemmhfkaaa.Q

namespace Go.Proofs.Ytmagefemmhfkaaa.Q
open Go Go.RowKit Go.Proofs.Ytmagefemmhfkaaa.PA Go.Proofs.YtmagefemmhfkaaaW.PrintWords Go.Proofs.YtmagefemmhfkaaaW.PrintLast Go.Proofs.YtmagefemmhfkaaaW.PrintMore
set_option linter.unusedVariables false
set_option linter.unusedSimpArgs false
theorem divide_l0 {b : Int} (hb : 0 < b) (hb' : b ≤ 9223372036854775808) (d : Nat) : ∀ (i H L Q R q0 X S : Int), i = 128 - (d : Int) → d ≤ 128 →
    0 ≤ H → H < 18446744073709551616 → 0 ≤ L → L < 18446744073709551616 → H * 18446744073709551616 + L = X * S → 0 ≤ X → X < 2 ^ d → 0 < S → 2 ^ d * S = 340282366920938463463374607431768211456 →
    0 ≤ q0 → 0 ≤ R → R < b → (q0 < 18446744073709551616 → Q = q0) → 0 ≤ Q → Q < 18446744073709551616 →
    ∃ Q', Ev (fun k => oculusref08_Divide.l0 k b i H L Q R (decide (q0 < 18446744073709551616))) (Q', ((b * q0 + R) * 2 ^ d + X) % b, decide (((b * q0 + R) * 2 ^ d + X) / b < 18446744073709551616))
      ∧ (((b * q0 + R) * 2 ^ d + X) / b < 18446744073709551616 → Q' = ((b * q0 + R) * 2 ^ d + X) / b) ∧ 0 ≤ Q' ∧ Q' < 18446744073709551616 := by
  induction d with
  | zero =>
    intro i H L Q R q0 X S hi hd hH0 hH hL0 hL hHL hX0 hX hS hMS hq0 hR0 hR hQ hQ0 hQ1
    obtain rfl : X = 0 := by have : X < 1 := hX; omega
    have e : (b * q0 + R) * 2 ^ 0 + 0 = R + b * q0 := by rw [Int.pow_zero, Int.mul_one, Int.add_zero, Int.add_comm]
    have hu : (R + b * q0) / b = q0 ∧ (R + b * q0) % b = R := (Int.ediv_emod_unique hb).2 ⟨rfl, hR0, hR⟩
    rw [e, hu.1, hu.2]
    refine ⟨Q, ?_, hQ, hQ0, hQ1⟩
    refine Ev.step (fun k => by rw [oculusref08_Divide.l0]) ?_
    exact Ev.neg (by omega) (Ev.now _)
  | succ d ih =>
    intro i H L Q R q0 X S hi hd hH0 hH hL0 hL hHL hX0 hX hS hMS hq0 hR0 hR hQ hQ0 hQ1
    have hM2 : (2 : Int) ^ (d + 1) = 2 ^ d * 2 := Int.pow_succ ..
    have hMp : (0 : Int) < 2 ^ d := Int.pow_pos (by decide)
    rw [hM2] at hX hMS
    have hMS' : 2 ^ d * S = 170141183460469231731687303715884105728 := by
      rw [Int.mul_assoc, Int.mul_comm 2 S, ← Int.mul_assoc] at hMS
      omega
    obtain ⟨bit, X', hbit, hbX, hX'0, hX', hH63, hXS⟩ : ∃ bit X' : Int, (bit = 0 ∨ bit = 1) ∧ X = bit * 2 ^ d + X' ∧ 0 ≤ X' ∧ X' < 2 ^ d ∧ H / 9223372036854775808 = bit ∧ X' * (2 * S) = 2 * (H * 18446744073709551616 + L) - bit * 340282366920938463463374607431768211456 := by
      by_cases hc : 2 ^ d ≤ X
      · refine ⟨1, X - 2 ^ d, .inr rfl, by omega, by omega, by omega, ?_, ?_⟩
        · have := Int.mul_le_mul_of_nonneg_right hc (Int.le_of_lt hS)
          omega
        · rw [hHL, Int.sub_mul, Int.mul_left_comm X 2 S, Int.mul_left_comm (2 ^ d) 2 S, hMS']; omega
      · refine ⟨0, X, .inl rfl, by omega, by omega, by omega, ?_, ?_⟩
        · have := Int.mul_lt_mul_of_pos_right (Int.lt_of_not_ge hc) hS
          omega
        · rw [hHL, Int.mul_left_comm X 2 S]; omega
    have hbit01 : 0 ≤ bit ∧ bit ≤ 1 := by omega
    have hN : ∀ c : Int, (b * q0 + R) * 2 ^ (d + 1) + X = (b * (2 * q0 + c) + (2 * R + bit - c * b)) * 2 ^ d + X' := by
      intro c
      rw [hM2, hbX]
      generalize (2 : Int) ^ d = M
      grind
    have eH : IntKind.u64.wrap (IntKind.u64.wrap (H * 2) + IntKind.u64.wrap (Int.tdiv L 9223372036854775808)) = 2 * H - bit * 18446744073709551616 + L / 9223372036854775808 := by
      rw [Int.tdiv_eq_ediv_of_nonneg hL0]; simp only [u64w]; omega
    have eL : IntKind.u64.wrap (L * 2) = 2 * L % 18446744073709551616 := by rw [u64w, Int.mul_comm]
    have eR : IntKind.u64.wrap (IntKind.u64.wrap (R * 2) + IntKind.u64.wrap (Int.tdiv H 9223372036854775808)) = 2 * R + bit := by
      rw [Int.tdiv_eq_ediv_of_nonneg hH0, hH63]; simp only [u64w]; omega
    have hi1 : wrap64 (i + 1) = i + 1 := w64 (by omega) (by omega)
    have go : ∀ (c Q1 : Int), (c = 0 ∨ c = 1) → (c = 1 ↔ b ≤ 2 * R + bit) → Q1 = (if c = 1 then IntKind.u64.wrap (IntKind.u64.wrap (Q * 2) + 1) else IntKind.u64.wrap (Q * 2)) →
        ∃ Q', Ev (fun k => oculusref08_Divide.l0 k b (wrap64 (i + 1)) (2 * H - bit * 18446744073709551616 + L / 9223372036854775808) (2 * L % 18446744073709551616) Q1 (2 * R + bit - c * b) (decide (2 * q0 + c < 18446744073709551616)))
          (Q', ((b * q0 + R) * 2 ^ (d + 1) + X) % b, decide (((b * q0 + R) * 2 ^ (d + 1) + X) / b < 18446744073709551616)) ∧ (((b * q0 + R) * 2 ^ (d + 1) + X) / b < 18446744073709551616 → Q' = ((b * q0 + R) * 2 ^ (d + 1) + X) / b) ∧ 0 ≤ Q' ∧ Q' < 18446744073709551616 := by
      intro c Q1 hc hcb hQ1e
      rw [hN c, hi1]
      refine ih (i + 1) _ _ Q1 (2 * R + bit - c * b) (2 * q0 + c) X' (2 * S) (by omega) (by omega) ?_ ?_ (by omega) (by omega) ?_ hX'0 hX' (by omega) ?_ (by omega) ?_ ?_ ?_ ?_ ?_
      · omega
      · omega
      · rw [hXS]; omega
      · rw [Int.mul_left_comm, hMS']; decide
      · rcases hc with rfl | rfl <;> omega
      · rcases hc with rfl | rfl <;> omega
      · intro h
        have := hQ (by omega)
        subst this
        rcases hc with rfl | rfl
        · rw [hQ1e, if_neg (by decide), u64w]; omega
        · rw [hQ1e, if_pos rfl, u64w, u64w]; omega
      · rw [hQ1e]; split <;> rw [u64w] <;> omega
      · rw [hQ1e]; split <;> rw [u64w] <;> omega
    have fin : ∀ ok' : Bool, (∀ c : Int, (c = 0 ∨ c = 1) → ok' = decide (2 * q0 + c < 18446744073709551616)) → ∃ Q', Ev (fun k => if IntKind.u64.wrap (IntKind.u64.wrap (R * 2) + IntKind.u64.wrap (Int.tdiv H 9223372036854775808)) ≥ b
          then oculusref08_Divide.l0 k b (wrap64 (i + 1)) (IntKind.u64.wrap (IntKind.u64.wrap (H * 2) + IntKind.u64.wrap (Int.tdiv L 9223372036854775808))) (IntKind.u64.wrap (L * 2)) (IntKind.u64.wrap (IntKind.u64.wrap (Q * 2) + 1)) (IntKind.u64.wrap (IntKind.u64.wrap (IntKind.u64.wrap (R * 2) + IntKind.u64.wrap (Int.tdiv H 9223372036854775808)) - b)) ok'
          else oculusref08_Divide.l0 k b (wrap64 (i + 1)) (IntKind.u64.wrap (IntKind.u64.wrap (H * 2) + IntKind.u64.wrap (Int.tdiv L 9223372036854775808))) (IntKind.u64.wrap (L * 2)) (IntKind.u64.wrap (Q * 2)) (IntKind.u64.wrap (IntKind.u64.wrap (R * 2) + IntKind.u64.wrap (Int.tdiv H 9223372036854775808))) ok')
          (Q', ((b * q0 + R) * 2 ^ (d + 1) + X) % b, decide (((b * q0 + R) * 2 ^ (d + 1) + X) / b < 18446744073709551616)) ∧ (((b * q0 + R) * 2 ^ (d + 1) + X) / b < 18446744073709551616 → Q' = ((b * q0 + R) * 2 ^ (d + 1) + X) / b) ∧ 0 ≤ Q' ∧ Q' < 18446744073709551616 := by
      intro ok' hok
      rw [eH, eL, eR]
      by_cases hcb : 2 * R + bit ≥ b
      · obtain ⟨Q', h1, h2⟩ := go 1 _ (.inr rfl) ⟨fun _ => hcb, fun _ => rfl⟩ (by rw [if_pos rfl])
        refine ⟨Q', Ev.pos hcb ?_, h2⟩
        rw [u64i (x := 2 * R + bit - b) (by omega) (by omega), hok 1 (.inr rfl)]
        rw [Int.one_mul] at h1
        exact h1
      · obtain ⟨Q', h1, h2⟩ := go 0 _ (.inl rfl) ⟨fun h => by omega, fun h => absurd h hcb⟩ (by rw [if_neg (by decide)])
        refine ⟨Q', Ev.neg hcb ?_, h2⟩
        rw [hok 0 (.inl rfl)]
        rw [Int.zero_mul, Int.sub_zero] at h1
        exact h1
    by_cases hok : q0 < 18446744073709551616
    · have hQe := hQ hok
      obtain ⟨Q', h1, h2⟩ := fin (decide (Q < 9223372036854775808)) (fun c hc => by rw [hQe]; congr 1; apply propext; omega)
      refine ⟨Q', Ev.step (fun k => by rw [oculusref08_Divide.l0]) (Ev.pos (by omega) (Ev.pos (by rw [decide_eq_true hok]) h1)), h2⟩
    · obtain ⟨Q', h1, h2⟩ := fin false (fun c hc => by rw [decide_eq_false (by omega)])
      refine ⟨Q', Ev.step (fun k => by rw [oculusref08_Divide.l0]) (Ev.pos (by omega) (Ev.neg (by rw [decide_eq_false hok]; decide) h1)), h2⟩
theorem divide_ev {H L b : Int} (hb : 0 < b) (hb' : b ≤ 9223372036854775808) (hH0 : 0 ≤ H) (hH : H < 18446744073709551616) (hL0 : 0 ≤ L) (hL : L < 18446744073709551616) :
    ∃ Q', Ev (fun k => oculusref08_Divide.f k H L b) (Q', (H * 18446744073709551616 + L) % b, decide ((H * 18446744073709551616 + L) / b < 18446744073709551616))
      ∧ ((H * 18446744073709551616 + L) / b < 18446744073709551616 → Q' = (H * 18446744073709551616 + L) / b) ∧ 0 ≤ Q' ∧ Q' < 18446744073709551616 := by
  have := divide_l0 hb hb' 128 0 H L 0 0 0 (H * 18446744073709551616 + L) 1 (by decide) (by decide) hH0 hH hL0 hL (by rw [Int.mul_one]) (by omega) (by show _ < (340282366920938463463374607431768211456 : Int); omega) (by decide) (by decide) (by decide) (by decide) hb (fun _ => rfl) (by decide) (by decide)
  rw [show (b * 0 + 0) * 2 ^ 128 + (H * 18446744073709551616 + L) = H * 18446744073709551616 + L by omega] at this
  exact this
end Go.Proofs.Ytmagefemmhfkaaa.Q

namespace Go.Proofs.Ytmagefemmhfkaaa.Q
set_option linter.unusedVariables false
set_option linter.unusedSimpArgs false
theorem digit_stop {u d yn1 yn0 q rh : Int} (h1 : 0 < yn1 * 4294967296 + yn0) (hr : rh = u - q * yn1)
    (hc : q * yn0 ≤ 4294967296 * rh + d) : q ≤ (u * 4294967296 + d) / (yn1 * 4294967296 + yn0) := by
  refine Int.le_ediv_of_mul_le h1 ?_
  have e : q * (yn1 * 4294967296 + yn0) = (q * yn1) * 4294967296 + q * yn0 := by rw [Int.mul_add, ← Int.mul_assoc]
  rw [e]
  generalize q * yn1 = s at *
  generalize q * yn0 = t at *
  omega
theorem digit_more {u d yn1 yn0 q rh : Int} (hy1 : 0 < yn1) (hy0 : 0 ≤ yn0) (hd : d < 4294967296) (hu : u < yn1 * 4294967296 + yn0) (hr : rh = u - q * yn1)
    (hc : 4294967296 ≤ q ∨ 4294967296 * rh + d < q * yn0) : (u * 4294967296 + d) / (yn1 * 4294967296 + yn0) ≤ q - 1 := by
  have h1 : 0 < yn1 * 4294967296 + yn0 := by omega
  have key : (u * 4294967296 + d) / (yn1 * 4294967296 + yn0) < q := by
    refine Int.ediv_lt_of_lt_mul h1 ?_
    rcases hc with hc | hc
    · have := Int.mul_le_mul_of_nonneg_right hc (Int.le_of_lt h1)
      generalize q * (yn1 * 4294967296 + yn0) = z at *
      omega
    · have e : q * (yn1 * 4294967296 + yn0) = (q * yn1) * 4294967296 + q * yn0 := by rw [Int.mul_add, ← Int.mul_assoc]
      rw [e]
      generalize q * yn1 = s at *
      generalize q * yn0 = t at *
      omega
  omega
theorem digit_break {u d yn1 yn0 q rh : Int} (hy1 : 0 < yn1) (hy0 : 0 ≤ yn0) (hy0' : yn0 < 4294967296) (hd : 0 ≤ d) (hq0 : 1 ≤ q) (hq : q ≤ 4294967297) (hr : rh = u - q * yn1)
    (hb : 4294967296 ≤ rh + yn1) : q - 1 ≤ (u * 4294967296 + d) / (yn1 * 4294967296 + yn0) := by
  have h1 : 0 < yn1 * 4294967296 + yn0 := by omega
  refine Int.le_ediv_of_mul_le h1 ?_
  have e : (q - 1) * (yn1 * 4294967296 + yn0) = (q * yn1 - yn1) * 4294967296 + (q - 1) * yn0 := by
    rw [Int.mul_add, ← Int.mul_assoc, Int.sub_mul, Int.one_mul]
  have hm : (q - 1) * yn0 ≤ 4294967296 * 4294967295 := Int.mul_le_mul (by omega) (by omega) hy0 (by decide)
  rw [e]
  generalize q * yn1 = s at *
  generalize (q - 1) * yn0 = t at *
  omega
theorem digit_guess {u d yn1 yn0 : Int} (hy1 : 2147483648 ≤ yn1) (hy0 : 0 ≤ yn0) (hy0' : yn0 < 4294967296) (hu0 : 0 ≤ u) (hd0 : 0 ≤ d) (hd : d < 4294967296) (hu : u < yn1 * 4294967296 + yn0) :
    (u * 4294967296 + d) / (yn1 * 4294967296 + yn0) ≤ u / yn1 ∧ 0 ≤ u / yn1 ∧ u / yn1 ≤ 4294967297 ∧ 0 ≤ u - u / yn1 * yn1 ∧ u - u / yn1 * yn1 < yn1 := by
  have h1 : 0 < yn1 * 4294967296 + yn0 := by omega
  have hdm := Int.mul_ediv_add_emod u yn1
  have hm0 := Int.emod_nonneg u (b := yn1) (by omega)
  have hm1 := Int.emod_lt_of_pos u (b := yn1) (by omega)
  have hc : yn1 * (u / yn1) = u / yn1 * yn1 := Int.mul_comm ..
  refine ⟨?_, Int.ediv_nonneg hu0 (by omega), ?_, by omega, by omega⟩
  · refine Int.le_ediv_of_mul_le (by omega) ?_
    have h2 := Int.ediv_mul_le (u * 4294967296 + d) (b := yn1 * 4294967296 + yn0) (by omega)
    have hq0 : 0 ≤ (u * 4294967296 + d) / (yn1 * 4294967296 + yn0) := Int.ediv_nonneg (by omega) (by omega)
    generalize (u * 4294967296 + d) / (yn1 * 4294967296 + yn0) = Q at *
    have e : Q * (yn1 * 4294967296 + yn0) = (Q * yn1) * 4294967296 + Q * yn0 := by rw [Int.mul_add, ← Int.mul_assoc]
    have := Int.mul_nonneg hq0 hy0
    rw [e] at h2
    generalize Q * yn1 = s at *
    generalize Q * yn0 = t at *
    omega
  · have : u / yn1 < 4294967298 := by
      refine Int.ediv_lt_of_lt_mul (by omega) ?_
      omega
    omega
theorem two_digits {N U D1 D0 Y Q1 R1 Q0 R0 : Int} (hY : 0 < Y) (hN : N = (U * 4294967296 + D1) * 4294967296 + D0)
    (h1 : U * 4294967296 + D1 = Y * Q1 + R1) (h0 : R1 * 4294967296 + D0 = Y * Q0 + R0) (hr0 : 0 ≤ R0) (hr : R0 < Y) :
    N / Y = Q1 * 4294967296 + Q0 ∧ N % Y = R0 := by
  have e : N = R0 + Y * (Q1 * 4294967296 + Q0) := by
    have : Y * (Q1 * 4294967296 + Q0) = (Y * Q1) * 4294967296 + Y * Q0 := by rw [Int.mul_add, Int.mul_assoc]
    rw [this, hN]
    generalize Y * Q1 = s at *
    generalize Y * Q0 = t at *
    omega
  exact (Int.ediv_emod_unique hY).2 ⟨by rw [e], hr0, hr⟩
end Go.Proofs.Ytmagefemmhfkaaa.Q

namespace Go.Proofs.Ytmagefemmhfkaaa.Q
open Go Go.RowKit Go.Proofs.Ytmagefemmhfkaaa.PA Go.Proofs.YtmagefemmhfkaaaW.PrintWords Go.Proofs.YtmagefemmhfkaaaW.PrintLast Go.Proofs.YtmagefemmhfkaaaW.PrintMore
set_option linter.unusedVariables false
set_option linter.unusedSimpArgs false
theorem mul64_math {a b : Int} (ha0 : 0 ≤ a) (ha : a < 18446744073709551616) (hb0 : 0 ≤ b) (hb : b < 18446744073709551616) :
    ∃ p11 p10 p01 p00 : Int, p11 = (a / 4294967296) * (b / 4294967296) ∧ p10 = (a / 4294967296) * (b % 4294967296) ∧ p01 = (a % 4294967296) * (b / 4294967296) ∧ p00 = (a % 4294967296) * (b % 4294967296)
      ∧ (0 ≤ p11 ∧ p11 ≤ 18446744065119617025) ∧ (0 ≤ p10 ∧ p10 ≤ 18446744065119617025) ∧ (0 ≤ p01 ∧ p01 ≤ 18446744065119617025) ∧ (0 ≤ p00 ∧ p00 ≤ 18446744065119617025)
      ∧ a * b = p11 * 18446744073709551616 + (p10 + p01) * 4294967296 + p00 := by
  refine ⟨_, _, _, _, rfl, rfl, rfl, rfl, prodB (by omega) (by omega) (by omega) (by omega), prodB (by omega) (by omega) (by omega) (by omega), prodB (by omega) (by omega) (by omega) (by omega), prodB (by omega) (by omega) (by omega) (by omega), ?_⟩
  have ea : a = a / 4294967296 * 4294967296 + a % 4294967296 := by omega
  have eb : b = b / 4294967296 * 4294967296 + b % 4294967296 := by omega
  generalize a / 4294967296 = x1 at *
  generalize a % 4294967296 = x0 at *
  generalize b / 4294967296 = y1 at *
  generalize b % 4294967296 = y0 at *
  subst ea eb
  grind
theorem mul64_f (a b : Int) (ha0 : 0 ≤ a) (ha : a < 18446744073709551616) (hb0 : 0 ≤ b) (hb : b < 18446744073709551616) :
    bits_Mul64.f a b = some (a * b / 18446744073709551616, a * b % 18446744073709551616) := by
  obtain ⟨p11, p10, p01, p00, e11, e10, e01, e00, h11, h10, h01, h00, e⟩ := mul64_math ha0 ha hb0 hb
  unfold bits_Mul64.f
  rw [and32 ha0 ha, and32 hb0 hb, ← e11, ← e10, ← e01, ← e00, u64i (x := p11) (by omega) (by omega), u64i (x := p10) (by omega) (by omega), u64i (x := p01) (by omega) (by omega), u64i (x := p00) (by omega) (by omega)]
  rw [u64i (x := p10 + p00 / 4294967296) (by omega) (by omega), and32 (by omega) (by omega), u64w (a * b)]
  rw [u64i (x := (p10 + p00 / 4294967296) % 4294967296 + p01) (by omega) (by omega), u64w, u64w]
  congr 2
  omega
theorem times_f (a b : Int) (ha0 : 0 ≤ a) (ha : a < 18446744073709551616) (hb0 : 0 ≤ b) (hb : b < 18446744073709551616) :
    oculusref08_Times.f a b = some (a * b / 18446744073709551616, a * b % 18446744073709551616) := by
  obtain ⟨p11, p10, p01, p00, e11, e10, e01, e00, h11, h10, h01, h00, e⟩ := mul64_math ha0 ha hb0 hb
  unfold oculusref08_Times.f
  simp only [Int.tdiv_eq_ediv_of_nonneg ha0, Int.tdiv_eq_ediv_of_nonneg hb0, Int.tmod_eq_emod_of_nonneg ha0, Int.tmod_eq_emod_of_nonneg hb0]
  rw [u64i (x := a / 4294967296) (by omega) (by omega), u64i (x := b / 4294967296) (by omega) (by omega)]
  rw [← e11, ← e10, ← e01, ← e00, u64i (x := p11) (by omega) (by omega), u64i (x := p10) (by omega) (by omega), u64i (x := p01) (by omega) (by omega), u64i (x := p00) (by omega) (by omega)]
  rw [Int.tdiv_eq_ediv_of_nonneg h00.1, Int.tmod_eq_emod_of_nonneg h00.1, u64i (x := p00 / 4294967296) (by omega) (by omega)]
  rw [u64i (x := p10 + p00 / 4294967296) (by omega) (by omega), Int.tdiv_eq_ediv_of_nonneg (a := p10 + p00 / 4294967296) (by omega), Int.tmod_eq_emod_of_nonneg (a := p10 + p00 / 4294967296) (by omega)]
  rw [u64i (x := (p10 + p00 / 4294967296) / 4294967296) (by omega) (by omega)]
  rw [u64i (x := p01 + (p10 + p00 / 4294967296) % 4294967296) (by omega) (by omega), Int.tdiv_eq_ediv_of_nonneg (a := p01 + (p10 + p00 / 4294967296) % 4294967296) (by omega), Int.tmod_eq_emod_of_nonneg (a := p01 + (p10 + p00 / 4294967296) % 4294967296) (by omega)]
  simp only [u64w]
  congr 2
  · omega
  · omega
theorem size_f (x : Int) (h0 : -9223372036854775808 < x) (h1 : x ≤ 9223372036854775807) : dec_size.f x = some (x.natAbs : Int) := by
  unfold dec_size.f
  split
  · rw [w64 (by omega) (by omega), u64i (by omega) (by omega)]; congr 1; omega
  · rw [u64i (by omega) (by omega)]; congr 1; omega
theorem abs_f (x : Int) (h0 : -9223372036854775808 < x) (h1 : x ≤ 9223372036854775807) : oculusref08_Abs.f x = some (x.natAbs : Int) := by
  unfold oculusref08_Abs.f
  split
  · rw [w64 (by omega) (by omega), u64i (by omega) (by omega)]; congr 1; omega
  · rw [u64i (by omega) (by omega)]; congr 1; omega
end Go.Proofs.Ytmagefemmhfkaaa.Q

namespace Go.Proofs.Ytmagefemmhfkaaa.Q
open Go Go.RowKit Go.Proofs.Ytmagefemmhfkaaa.PA Go.Proofs.YtmagefemmhfkaaaW.PrintWords Go.Proofs.YtmagefemmhfkaaaW.PrintLast Go.Proofs.YtmagefemmhfkaaaW.PrintMore
set_option linter.unusedVariables false
set_option linter.unusedSimpArgs false
section
variable {y s yn1 yn0 u d e : Int} {r : Int × Int}
theorem div_l0 (hY1 : 2147483648 ≤ yn1) (hY1' : yn1 < 4294967296) (hy0 : 0 ≤ yn0) (hy0' : yn0 < 4294967296) (hu0 : 0 ≤ u) (hu : u < yn1 * 4294967296 + yn0) (hd0 : 0 ≤ d) (hd : d < 4294967296)
    (hj : Ev (fun k => bits_Div64.j2 k y s yn1 yn0 u d e ((u * 4294967296 + d) / (yn1 * 4294967296 + yn0))) r) (n : Nat) :
    ∀ q rh : Int, q - (u * 4294967296 + d) / (yn1 * 4294967296 + yn0) ≤ n → (u * 4294967296 + d) / (yn1 * 4294967296 + yn0) ≤ q → 0 ≤ q → q ≤ 4294967297 → rh = u - q * yn1 → 0 ≤ rh → rh < 4294967296 →
      Ev (fun k => bits_Div64.l0 k y s yn1 yn0 u d e q rh) r := by
  induction n with
  | zero =>
    intro q rh h1 h2 hq0 hq hr hr0 hrB
    have hn : ¬ (4294967296 ≤ q ∨ 4294967296 * rh + d < q * yn0) := fun hc => by
      have := digit_more (by omega) hy0 hd hu hr hc
      omega
    have hs := digit_stop (yn0 := yn0) (d := d) (by omega) hr (by omega)
    obtain rfl : q = (u * 4294967296 + d) / (yn1 * 4294967296 + yn0) := by omega
    have hp : 0 ≤ (u * 4294967296 + d) / (yn1 * 4294967296 + yn0) * yn0 := Int.mul_nonneg hq0 hy0
    refine Ev.step (fun k => by rw [bits_Div64.l0]) ?_
    refine Ev.neg (by omega) ?_
    rw [u64i (x := 4294967296 * rh) (by omega) (by omega), u64i (x := 4294967296 * rh + d) (by omega) (by omega), u64i (x := _ * yn0) hp (by omega), decide_eq_false (by omega)]
    refine Ev.step (fun k => by rw [bits_Div64.j1]) ?_
    exact Ev.neg (by decide) hj
  | succ n ih =>
    intro q rh h1 h2 hq0 hq hr hr0 hrB
    have hp : 0 ≤ q * yn0 := Int.mul_nonneg hq0 hy0
    have hp' : q * yn0 ≤ 4294967297 * 4294967295 := Int.mul_le_mul hq (by omega) hy0 (by decide)
    by_cases hn : 4294967296 ≤ q ∨ 4294967296 * rh + d < q * yn0
    · have hm := digit_more (by omega) hy0 hd hu hr hn
      have hq1 : 1 ≤ q := by
        rcases hn with h | h
        · omega
        · by_cases h0 : q = 0
          · subst h0; omega
          · omega
      have step : Ev (fun k => bits_Div64.j1 k y s yn1 yn0 u d e q rh true) r := by
        refine Ev.step (fun k => by rw [bits_Div64.j1]) ?_
        refine Ev.pos rfl ?_
        rw [u64i (x := rh + yn1) (by omega) (by omega), u64i (x := q - 1) (by omega) (by omega)]
        by_cases hb : rh + yn1 ≥ 4294967296
        · have := digit_break (by omega) hy0 hy0' hd0 hq1 hq hr hb
          obtain e' : q - 1 = (u * 4294967296 + d) / (yn1 * 4294967296 + yn0) := by omega
          refine Ev.pos hb ?_
          rw [e']; exact hj
        · refine Ev.neg hb ?_
          exact ih (q - 1) (rh + yn1) (by omega) hm (by omega) (by omega) (by rw [hr, Int.sub_mul, Int.one_mul]; omega) (by omega) (by omega)
      refine Ev.step (fun k => by rw [bits_Div64.l0]) ?_
      by_cases hB : q ≥ 4294967296
      · exact Ev.pos hB step
      · refine Ev.neg hB ?_
        rw [u64i (x := 4294967296 * rh) (by omega) (by omega), u64i (x := 4294967296 * rh + d) (by omega) (by omega), u64i (x := q * yn0) hp (by omega), decide_eq_true (by omega)]
        exact step
    · have hs := digit_stop (yn0 := yn0) (d := d) (by omega) hr (by omega)
      obtain e' : q = (u * 4294967296 + d) / (yn1 * 4294967296 + yn0) := by omega
      refine Ev.step (fun k => by rw [bits_Div64.l0]) ?_
      refine Ev.neg (by omega) ?_
      rw [u64i (x := 4294967296 * rh) (by omega) (by omega), u64i (x := 4294967296 * rh + d) (by omega) (by omega), u64i (x := q * yn0) hp (by omega), decide_eq_false (by omega)]
      refine Ev.step (fun k => by rw [bits_Div64.j1]) ?_
      refine Ev.neg (by decide) ?_
      rw [e']; exact hj
theorem div_l1 (t : Int) (hY1 : 2147483648 ≤ yn1) (hY1' : yn1 < 4294967296) (hy0 : 0 ≤ yn0) (hy0' : yn0 < 4294967296) (hu0 : 0 ≤ u) (hu : u < yn1 * 4294967296 + yn0) (hd0 : 0 ≤ d) (hd : d < 4294967296) (hs0 : 0 ≤ s) (n : Nat) :
    ∀ q rh : Int, q - (u * 4294967296 + d) / (yn1 * 4294967296 + yn0) ≤ n → (u * 4294967296 + d) / (yn1 * 4294967296 + yn0) ≤ q → 0 ≤ q → q ≤ 4294967297 → rh = u - q * yn1 → 0 ≤ rh → rh < 4294967296 →
      Ev (fun k => bits_Div64.l1 k y s yn1 yn0 d t rh u q) (IntKind.u64.wrap (IntKind.u64.wrap (t * 4294967296) + (u * 4294967296 + d) / (yn1 * 4294967296 + yn0)),
        shr .u64 (IntKind.u64.wrap (IntKind.u64.wrap (IntKind.u64.wrap (u * 4294967296) + d) - IntKind.u64.wrap ((u * 4294967296 + d) / (yn1 * 4294967296 + yn0) * y))) s) := by
  induction n with
  | zero =>
    intro q rh h1 h2 hq0 hq hr hr0 hrB
    have hn : ¬ (4294967296 ≤ q ∨ 4294967296 * rh + d < q * yn0) := fun hc => by
      have := digit_more (by omega) hy0 hd hu hr hc
      omega
    have hs := digit_stop (yn0 := yn0) (d := d) (by omega) hr (by omega)
    obtain rfl : q = (u * 4294967296 + d) / (yn1 * 4294967296 + yn0) := by omega
    have hp : 0 ≤ (u * 4294967296 + d) / (yn1 * 4294967296 + yn0) * yn0 := Int.mul_nonneg hq0 hy0
    refine Ev.step (fun k => by rw [bits_Div64.l1]) ?_
    refine Ev.neg (by omega) ?_
    rw [u64i (x := 4294967296 * rh) (by omega) (by omega), u64i (x := 4294967296 * rh + d) (by omega) (by omega), u64i (x := _ * yn0) hp (by omega), decide_eq_false (by omega)]
    refine Ev.step (fun k => by rw [bits_Div64.j4]) ?_
    exact Ev.neg (by decide) (Ev.pos hs0 (Ev.now _))
  | succ n ih =>
    intro q rh h1 h2 hq0 hq hr hr0 hrB
    have hp : 0 ≤ q * yn0 := Int.mul_nonneg hq0 hy0
    have hp' : q * yn0 ≤ 4294967297 * 4294967295 := Int.mul_le_mul hq (by omega) hy0 (by decide)
    by_cases hn : 4294967296 ≤ q ∨ 4294967296 * rh + d < q * yn0
    · have hm := digit_more (by omega) hy0 hd hu hr hn
      have hq1 : 1 ≤ q := by
        rcases hn with h | h
        · omega
        · by_cases h0 : q = 0
          · subst h0; omega
          · omega
      have step : Ev (fun k => bits_Div64.j4 k y s yn1 yn0 d t rh u q true) (IntKind.u64.wrap (IntKind.u64.wrap (t * 4294967296) + (u * 4294967296 + d) / (yn1 * 4294967296 + yn0)),
          shr .u64 (IntKind.u64.wrap (IntKind.u64.wrap (IntKind.u64.wrap (u * 4294967296) + d) - IntKind.u64.wrap ((u * 4294967296 + d) / (yn1 * 4294967296 + yn0) * y))) s) := by
        refine Ev.step (fun k => by rw [bits_Div64.j4]) ?_
        refine Ev.pos rfl ?_
        rw [u64i (x := rh + yn1) (by omega) (by omega), u64i (x := q - 1) (by omega) (by omega)]
        by_cases hb : rh + yn1 ≥ 4294967296
        · have := digit_break (by omega) hy0 hy0' hd0 hq1 hq hr hb
          obtain e' : q - 1 = (u * 4294967296 + d) / (yn1 * 4294967296 + yn0) := by omega
          refine Ev.pos hb (Ev.pos hs0 ?_)
          rw [e']; exact Ev.now _
        · refine Ev.neg hb ?_
          exact ih (q - 1) (rh + yn1) (by omega) hm (by omega) (by omega) (by rw [hr, Int.sub_mul, Int.one_mul]; omega) (by omega) (by omega)
      refine Ev.step (fun k => by rw [bits_Div64.l1]) ?_
      by_cases hB : q ≥ 4294967296
      · exact Ev.pos hB step
      · refine Ev.neg hB ?_
        rw [u64i (x := 4294967296 * rh) (by omega) (by omega), u64i (x := 4294967296 * rh + d) (by omega) (by omega), u64i (x := q * yn0) hp (by omega), decide_eq_true (by omega)]
        exact step
    · have hs := digit_stop (yn0 := yn0) (d := d) (by omega) hr (by omega)
      obtain e' : q = (u * 4294967296 + d) / (yn1 * 4294967296 + yn0) := by omega
      refine Ev.step (fun k => by rw [bits_Div64.l1]) ?_
      refine Ev.neg (by omega) ?_
      rw [u64i (x := 4294967296 * rh) (by omega) (by omega), u64i (x := 4294967296 * rh + d) (by omega) (by omega), u64i (x := q * yn0) hp (by omega), decide_eq_false (by omega)]
      refine Ev.step (fun k => by rw [bits_Div64.j4]) ?_
      refine Ev.neg (by decide) (Ev.pos hs0 ?_)
      rw [e']; exact Ev.now _
end
end Go.Proofs.Ytmagefemmhfkaaa.Q

namespace Go.Proofs.Ytmagefemmhfkaaa.Q
open Go Go.RowKit Go.Proofs.Ytmagefemmhfkaaa.PA Go.Proofs.YtmagefemmhfkaaaW.PrintWords Go.Proofs.YtmagefemmhfkaaaW.PrintLast Go.Proofs.YtmagefemmhfkaaaW.PrintMore
set_option linter.unusedVariables false
set_option linter.unusedSimpArgs false
theorem len8 (T : ByteArray) (hT : ∀ i : Fin 256, bt T (i.val : Int) = if i.val = 0 then 0 else (Nat.log2 i.val : Int) + 1) {x : Int} (h0 : 0 < x) (h1 : x < 256) :
    0 < bt T x ∧ bt T x ≤ 8 ∧ 2 ^ (bt T x - 1).toNat ≤ x ∧ x < 2 ^ (bt T x).toNat := by
  obtain ⟨n, rfl⟩ := Int.eq_ofNat_of_zero_le (Int.le_of_lt h0)
  have hn : n < 256 := by omega
  have hn0 : n ≠ 0 := by omega
  have h := hT ⟨n, hn⟩
  dsimp only at h
  rw [if_neg hn0] at h
  rw [h]
  have h8 : Nat.log2 n < 8 := (Nat.log2_lt hn0).2 (by omega)
  have a := Nat.log2_self_le hn0
  have b := @Nat.lt_log2_self n
  refine ⟨by omega, by omega, ?_, ?_⟩
  · rw [show ((Nat.log2 n : Int) + 1 - 1).toNat = Nat.log2 n by omega]; exact_mod_cast a
  · rw [show ((Nat.log2 n : Int) + 1).toNat = Nat.log2 n + 1 by omega]; exact_mod_cast b
def lenT : ByteArray := ⟨#[0, 1, 2, 2, 3, 3, 3, 3, 4, 4, 4, 4, 4, 4, 4, 4, 5, 5, 5, 5, 5, 5, 5, 5, 5, 5, 5, 5, 5, 5, 5, 5, 6, 6, 6, 6, 6, 6, 6, 6, 6, 6, 6, 6, 6, 6, 6, 6, 6, 6, 6, 6, 6, 6, 6, 6, 6, 6, 6, 6, 6, 6, 6, 6, 7, 7, 7, 7, 7, 7, 7, 7, 7, 7, 7, 7, 7, 7, 7, 7, 7, 7, 7, 7, 7, 7, 7, 7, 7, 7, 7, 7, 7, 7, 7, 7, 7, 7, 7, 7, 7, 7, 7, 7, 7, 7, 7, 7, 7, 7, 7, 7, 7, 7, 7, 7, 7, 7, 7, 7, 7, 7, 7, 7, 7, 7, 7, 7, 8, 8, 8, 8, 8, 8, 8, 8, 8, 8, 8, 8, 8, 8, 8, 8, 8, 8, 8, 8, 8, 8, 8, 8, 8, 8, 8, 8, 8, 8, 8, 8, 8, 8, 8, 8, 8, 8, 8, 8, 8, 8, 8, 8, 8, 8, 8, 8, 8, 8, 8, 8, 8, 8, 8, 8, 8, 8, 8, 8, 8, 8, 8, 8, 8, 8, 8, 8, 8, 8, 8, 8, 8, 8, 8, 8, 8, 8, 8, 8, 8, 8, 8, 8, 8, 8, 8, 8, 8, 8, 8, 8, 8, 8, 8, 8, 8, 8, 8, 8, 8, 8, 8, 8, 8, 8, 8, 8, 8, 8, 8, 8, 8, 8, 8, 8, 8, 8, 8, 8, 8, 8, 8, 8, 8, 8, 8, 8]⟩
theorem lenT_ok : ∀ i : Fin 256, bt lenT (i.val : Int) = if i.val = 0 then 0 else (Nat.log2 i.val : Int) + 1 := by decide +kernel
theorem len_body (k : Nat) (x0 x2 : Int) : bits_Len64.j0 (k + 1) x0 x2 = (if x0 ≥ 65536 then (if (x0 / 65536) ≥ 256 then (if 0 ≤ (((x0 / 65536) / 256) % 256) then (if (((x0 / 65536) / 256) % 256) < 256 then (some (wrap64 ((wrap64 ((wrap64 (x2 + 16)) + 8)) + (wrap64 (bt lenT (((x0 / 65536) / 256) % 256)))))) else (none)) else (none)) else (if 0 ≤ ((x0 / 65536) % 256) then (if ((x0 / 65536) % 256) < 256 then (some (wrap64 ((wrap64 (x2 + 16)) + (wrap64 (bt lenT ((x0 / 65536) % 256)))))) else (none)) else (none))) else (if x0 ≥ 256 then (if 0 ≤ ((x0 / 256) % 256) then (if ((x0 / 256) % 256) < 256 then (some (wrap64 ((wrap64 (x2 + 8)) + (wrap64 (bt lenT ((x0 / 256) % 256)))))) else (none)) else (none)) else (if 0 ≤ ((x0) % 256) then (if ((x0) % 256) < 256 then (some (wrap64 (x2 + (wrap64 (bt lenT ((x0) % 256)))))) else (none)) else (none)))) := rfl
theorem pow_shift {t : Int} (ht : 0 ≤ t) (c : Nat) : (2 : Int) ^ (t + c).toNat = 2 ^ t.toNat * 2 ^ c := by
  rw [show (t + c).toNat = t.toNat + c by omega, Int.pow_add]
theorem len_shift {x t : Int} (c : Nat) (ht : 0 < t) (h0 : 2 ^ (t - 1).toNat ≤ x / 2 ^ c) (h1 : x / 2 ^ c < 2 ^ t.toNat) : 2 ^ (t + c - 1).toNat ≤ x ∧ x < 2 ^ (t + c).toNat := by
  have hc : (0 : Int) < 2 ^ c := Int.pow_pos (by decide)
  rw [show t + c - 1 = (t - 1) + c by omega, pow_shift (by omega), pow_shift (by omega)]
  exact ⟨(Int.le_ediv_iff_mul_le hc).1 h0, (Int.ediv_lt_iff_lt_mul hc).1 h1⟩
theorem len_j0 {x b : Int} (h0 : 0 < x) (h1 : x < 4294967296) (hb0 : 0 ≤ b) (hb : b ≤ 32) :
    ∃ n, Ev (fun k => bits_Len64.j0 k x b) (b + n) ∧ 0 < n ∧ n ≤ 32 ∧ 2 ^ (n - 1).toNat ≤ x ∧ x < 2 ^ n.toNat := by
  by_cases c1 : x ≥ 65536
  · by_cases c2 : x / 65536 ≥ 256
    · obtain ⟨a1, a2, a3, a4⟩ := len8 lenT lenT_ok (x := x / 65536 / 256 % 256) (by omega) (by omega)
      rw [show x / 65536 / 256 % 256 = x / 2 ^ 24 by simp; omega] at *
      obtain ⟨d1, d2⟩ := len_shift 24 a1 a3 a4
      refine ⟨bt lenT (x / 2 ^ 24) + 24, Ev.step (fun k => by rw [len_body]) (Ev.pos c1 (Ev.pos c2 ?_)), by omega, by omega, d1, d2⟩
      rw [show x / 65536 / 256 % 256 = x / 2 ^ 24 by simp; omega]
      refine Ev.pos (by simp; omega) (Ev.pos (by simp; omega) ?_)
      rw [w64 (x := bt lenT (x / 2 ^ 24)) (by omega) (by omega), w64 (x := b + 16) (by omega) (by omega), w64 (x := b + 16 + 8) (by omega) (by omega), w64 (by omega) (by omega)]
      rw [show b + 16 + 8 + bt lenT (x / 2 ^ 24) = b + (bt lenT (x / 2 ^ 24) + 24) by omega]; exact Ev.now _
    · obtain ⟨a1, a2, a3, a4⟩ := len8 lenT lenT_ok (x := x / 65536 % 256) (by omega) (by omega)
      rw [show x / 65536 % 256 = x / 2 ^ 16 by simp; omega] at *
      obtain ⟨d1, d2⟩ := len_shift 16 a1 a3 a4
      refine ⟨bt lenT (x / 2 ^ 16) + 16, Ev.step (fun k => by rw [len_body]) (Ev.pos c1 (Ev.neg c2 ?_)), by omega, by omega, d1, d2⟩
      rw [show x / 65536 % 256 = x / 2 ^ 16 by simp; omega]
      refine Ev.pos (by simp; omega) (Ev.pos (by simp; omega) ?_)
      rw [w64 (x := bt lenT (x / 2 ^ 16)) (by omega) (by omega), w64 (x := b + 16) (by omega) (by omega), w64 (by omega) (by omega)]
      rw [show b + 16 + bt lenT (x / 2 ^ 16) = b + (bt lenT (x / 2 ^ 16) + 16) by omega]; exact Ev.now _
  · by_cases c2 : x ≥ 256
    · obtain ⟨a1, a2, a3, a4⟩ := len8 lenT lenT_ok (x := x / 256 % 256) (by omega) (by omega)
      rw [show x / 256 % 256 = x / 2 ^ 8 by simp; omega] at *
      obtain ⟨d1, d2⟩ := len_shift 8 a1 a3 a4
      refine ⟨bt lenT (x / 2 ^ 8) + 8, Ev.step (fun k => by rw [len_body]) (Ev.neg c1 (Ev.pos c2 ?_)), by omega, by omega, d1, d2⟩
      rw [show x / 256 % 256 = x / 2 ^ 8 by simp; omega]
      refine Ev.pos (by simp; omega) (Ev.pos (by simp; omega) ?_)
      rw [w64 (x := bt lenT (x / 2 ^ 8)) (by omega) (by omega), w64 (x := b + 8) (by omega) (by omega), w64 (by omega) (by omega)]
      rw [show b + 8 + bt lenT (x / 2 ^ 8) = b + (bt lenT (x / 2 ^ 8) + 8) by omega]; exact Ev.now _
    · obtain ⟨a1, a2, a3, a4⟩ := len8 lenT lenT_ok (x := x % 256) (by omega) (by omega)
      rw [show x % 256 = x by omega] at *
      refine ⟨bt lenT x, Ev.step (fun k => by rw [len_body]) (Ev.neg c1 (Ev.neg c2 ?_)), by omega, by omega, a3, a4⟩
      rw [show x % 256 = x by omega]
      refine Ev.pos (by omega) (Ev.pos (by omega) ?_)
      rw [w64 (x := bt lenT x) (by omega) (by omega), w64 (by omega) (by omega)]
      exact Ev.now _
theorem len_f {x : Int} (h0 : 0 < x) (h1 : x < 18446744073709551616) : ∃ n, Ev (fun k => bits_Len64.f k x) n ∧ 0 < n ∧ n ≤ 64 ∧ 2 ^ (n - 1).toNat ≤ x ∧ x < 2 ^ n.toNat := by
  by_cases c : x ≥ 4294967296
  · obtain ⟨n, hn, a1, a2, a3, a4⟩ := len_j0 (x := x / 4294967296) (b := 32) (by omega) (by omega) (by omega) (by omega)
    obtain ⟨d1, d2⟩ := len_shift (x := x) 32 a1 (by simpa using a3) (by simpa using a4)
    exact ⟨n + 32, Ev.congr (fun k => by rw [bits_Len64.f]) (Ev.pos c (by rw [Int.add_comm]; exact hn)), by omega, by omega, d1, d2⟩
  · obtain ⟨n, hn, a1, a2, a3, a4⟩ := len_j0 (x := x) (b := 0) (by omega) (by omega) (by omega) (by omega)
    rw [Int.zero_add] at hn
    exact ⟨n, Ev.congr (fun k => by rw [bits_Len64.f]) (Ev.neg c hn), by omega, by omega, a3, a4⟩
theorem lead_f {y : Int} (h0 : 0 < y) (h1 : y < 18446744073709551616) : ∃ s : Int, Ev (fun k => bits_LeadingZeros64.f k y) s ∧ 0 ≤ s ∧ s ≤ 63 ∧ 9223372036854775808 ≤ y * 2 ^ s.toNat ∧ y * 2 ^ s.toNat < 18446744073709551616 := by
  obtain ⟨n, hn, a1, a2, a3, a4⟩ := len_f h0 h1
  refine ⟨64 - n, Ev.congr (fun k => by rw [bits_LeadingZeros64.f]) (Ev.bind hn ?_), by omega, by omega, ?_, ?_⟩
  · rw [w64 (by omega) (by omega)]; exact Ev.now _
  · have e : (2 : Int) ^ (n - 1).toNat * 2 ^ (64 - n).toNat = 9223372036854775808 := by
      rw [← Int.pow_add, show (n - 1).toNat + (64 - n).toNat = 63 by omega]; decide
    have := Int.mul_le_mul_of_nonneg_right a3 (c := 2 ^ (64 - n).toNat) (Int.le_of_lt (Int.pow_pos (by decide)))
    omega
  · have e : (2 : Int) ^ n.toNat * 2 ^ (64 - n).toNat = 18446744073709551616 := by
      rw [← Int.pow_add, show n.toNat + (64 - n).toNat = 64 by omega]; decide
    have := Int.mul_lt_mul_of_pos_right a4 (c := 2 ^ (64 - n).toNat) (Int.pow_pos (by decide))
    omega
end Go.Proofs.Ytmagefemmhfkaaa.Q

namespace Go.Proofs.Ytmagefemmhfkaaa.Q
open Go Go.RowKit Go.Proofs.Ytmagefemmhfkaaa.PA Go.Proofs.YtmagefemmhfkaaaW.PrintWords Go.Proofs.YtmagefemmhfkaaaW.PrintLast Go.Proofs.YtmagefemmhfkaaaW.PrintMore
set_option linter.unusedVariables false
set_option linter.unusedSimpArgs false
theorem div_j2 {Y s u d e : Int} (hY : 9223372036854775808 ≤ Y) (hY' : Y < 18446744073709551616) (hs0 : 0 ≤ s) (hu0 : 0 ≤ u) (hu : u < Y) (hd0 : 0 ≤ d) (hd : d < 4294967296) (he0 : 0 ≤ e) (he : e < 4294967296) :
    Ev (fun k => bits_Div64.j2 k Y s (Y / 4294967296) (Y % 4294967296) u d e ((u * 4294967296 + d) / Y))
      (((u * 4294967296 + d) * 4294967296 + e) / Y, ((u * 4294967296 + d) * 4294967296 + e) % Y / 2 ^ min s.toNat 64) := by
  have hY0 : 0 < Y := by omega
  have hYe : Y / 4294967296 * 4294967296 + Y % 4294967296 = Y := by omega
  have hm := Int.mul_ediv_add_emod (u * 4294967296 + d) Y
  have hr0 := Int.emod_nonneg (u * 4294967296 + d) (b := Y) (by omega)
  have hr1 := Int.emod_lt_of_pos (u * 4294967296 + d) hY0
  have hq0 : 0 ≤ (u * 4294967296 + d) / Y := Int.ediv_nonneg (by omega) (by omega)
  have hq1 : (u * 4294967296 + d) / Y < 4294967296 := Int.ediv_lt_of_lt_mul hY0 (by omega)
  generalize hQ1 : (u * 4294967296 + d) / Y = Q1 at *
  generalize hR1 : (u * 4294967296 + d) % Y = R1 at *
  have hm2 := Int.mul_ediv_add_emod (R1 * 4294967296 + e) Y
  have hs0' := Int.emod_nonneg (R1 * 4294967296 + e) (b := Y) (by omega)
  have hs1' := Int.emod_lt_of_pos (R1 * 4294967296 + e) hY0
  have hp0 : 0 ≤ (R1 * 4294967296 + e) / Y := Int.ediv_nonneg (by omega) (by omega)
  have hp1 : (R1 * 4294967296 + e) / Y < 4294967296 := Int.ediv_lt_of_lt_mul hY0 (by omega)
  obtain ⟨f1, f2⟩ := two_digits (N := (u * 4294967296 + d) * 4294967296 + e) (U := u) (D1 := d) (D0 := e) (Y := Y) (Q1 := Q1) (R1 := R1) hY0 rfl hm.symm hm2.symm hs0' hs1'
  have un21 : IntKind.u64.wrap (IntKind.u64.wrap (IntKind.u64.wrap (u * 4294967296) + d) - IntKind.u64.wrap (Q1 * Y)) = R1 := by
    rw [Int.mul_comm Q1 Y]; simp only [u64w]; omega
  obtain ⟨g1, g2, g3, g4, g5⟩ := digit_guess (u := R1) (d := e) (yn1 := Y / 4294967296) (yn0 := Y % 4294967296) (by omega) (by omega) (by omega) hr0 he0 he (by omega)
  refine Ev.step (fun k => by rw [bits_Div64.j2]) (Ev.neg (by omega) ?_)
  rw [un21, Int.tdiv_eq_ediv_of_nonneg hr0, u64i (x := R1 / (Y / 4294967296)) g2 (by omega)]
  rw [u64i (x := R1 / (Y / 4294967296) * (Y / 4294967296)) (Int.mul_nonneg g2 (by omega)) (by omega), u64i (x := R1 - _) g4 (by omega)]
  have h := div_l1 (y := Y) (s := s) (yn1 := Y / 4294967296) (yn0 := Y % 4294967296) (u := R1) (d := e) Q1 (by omega) (by omega) (by omega) (by omega) hr0 (by omega) he0 he hs0
    (R1 / (Y / 4294967296) - (R1 * 4294967296 + e) / (Y / 4294967296 * 4294967296 + Y % 4294967296)).toNat (R1 / (Y / 4294967296)) (R1 - R1 / (Y / 4294967296) * (Y / 4294967296)) (by omega) g1 g2 g3 rfl g4 (by omega)
  rw [hYe] at h
  rw [f1, f2]
  have e1 : IntKind.u64.wrap (IntKind.u64.wrap (Q1 * 4294967296) + (R1 * 4294967296 + e) / Y) = Q1 * 4294967296 + (R1 * 4294967296 + e) / Y := by
    rw [u64i (x := Q1 * 4294967296) (by omega) (by omega), u64i (by omega) (by omega)]
  have e2 : IntKind.u64.wrap (IntKind.u64.wrap (IntKind.u64.wrap (R1 * 4294967296) + e) - IntKind.u64.wrap ((R1 * 4294967296 + e) / Y * Y)) = (R1 * 4294967296 + e) % Y := by
    rw [Int.mul_comm _ Y]; simp only [u64w]; omega
  rw [e1, e2] at h
  exact h
theorem div64_ev {hi lo y : Int} (hy : 0 < y) (hy' : y < 18446744073709551616) (h0 : 0 ≤ hi) (h1 : hi < y) (l0 : 0 ≤ lo) (l1 : lo < 18446744073709551616) :
    Ev (fun k => bits_Div64.f k hi lo y) ((hi * 18446744073709551616 + lo) / y, (hi * 18446744073709551616 + lo) % y) := by
  refine Ev.congr (fun k => by rw [bits_Div64.f]) (Ev.neg (by omega) (Ev.neg (by omega) ?_))
  by_cases hz : hi = 0
  · subst hz
    refine Ev.pos rfl ?_
    rw [Int.tdiv_eq_ediv_of_nonneg l0, Int.tmod_eq_emod_of_nonneg l0, Int.zero_mul, Int.zero_add]
    have a := Int.ediv_nonneg l0 (Int.le_of_lt hy)
    have b : lo / y ≤ lo := Int.ediv_le_self _ l0
    rw [u64i a (by omega)]
    exact Ev.now _
  · obtain ⟨s, hs, hs0, hs63, hp0, hp1⟩ := lead_f hy hy'
    refine Ev.neg hz (Ev.bind hs ?_)
    have es : IntKind.u64.wrap s = s := u64i hs0 (by omega)
    have es' : IntKind.u64.wrap (64 - s) = 64 - s := u64i (by omega) (by omega)
    have hpp : (2 : Int) ^ s.toNat * 2 ^ (64 - s).toNat = 18446744073709551616 := by
      rw [← Int.pow_add, show s.toNat + (64 - s).toNat = 64 by omega]; decide
    have hpp0 : (0 : Int) < 2 ^ s.toNat := Int.pow_pos (by decide)
    have hpp1 : (0 : Int) < 2 ^ (64 - s).toNat := Int.pow_pos (by decide)
    have hmin : min s.toNat 64 = s.toNat := Nat.min_eq_left (by omega)
    have eY : shl .u64 y s = y * 2 ^ s.toNat := by
      unfold shl; rw [show IntKind.bits .u64 = 64 from rfl, hmin, u64i (by omega) hp1]
    have hhp : (hi + 1) * 2 ^ s.toNat ≤ y * 2 ^ s.toNat := Int.mul_le_mul_of_nonneg_right (by omega) (Int.le_of_lt hpp0)
    rw [Int.add_mul, Int.one_mul] at hhp
    have hhp0 : 0 ≤ hi * 2 ^ s.toNat := Int.mul_nonneg h0 (Int.le_of_lt hpp0)
    have eH : shl .u64 hi s = hi * 2 ^ s.toNat := by
      unfold shl; rw [show IntKind.bits .u64 = 64 from rfl, hmin, u64i hhp0 (by omega)]
    have eL : shl .u64 lo s = lo * 2 ^ s.toNat % 18446744073709551616 := by
      unfold shl; rw [show IntKind.bits .u64 = 64 from rfl, hmin, u64w]
    have eR : shr .u64 lo (64 - s) = lo / 2 ^ (64 - s).toNat := by
      unfold shr; rw [show IntKind.bits .u64 = 64 from rfl, Nat.min_eq_left (by omega)]
    have hlo0 : 0 ≤ lo / 2 ^ (64 - s).toNat := Int.ediv_nonneg l0 (Int.le_of_lt hpp1)
    have hlo1 : lo / 2 ^ (64 - s).toNat < 2 ^ s.toNat := Int.ediv_lt_of_lt_mul hpp1 (by rw [hpp]; exact l1)
    have hps : (2 : Int) ^ s.toNat ≤ 9223372036854775808 := by
      have : (2 : Int) ^ s.toNat ≤ 2 ^ 63 := by
        have h := Nat.pow_le_pow_right (n := 2) (by decide) (show s.toNat ≤ 63 by omega)
        exact_mod_cast h
      simpa using this
    have eU : Go.bits .or .u64 (hi * 2 ^ s.toNat) (lo / 2 ^ (64 - s).toNat) = hi * 2 ^ s.toNat + lo / 2 ^ (64 - s).toNat :=
      bits_join .u64 64 (by decide) (fun n a b => u64i a (by simpa using b)) s.toNat _ _ hhp0 (Int.mul_emod_left ..) (by show _ < (18446744073709551616 : Int); omega) hlo0 hlo1 (by show _ < (18446744073709551616 : Int); omega)
    simp only [es, es', eY, eH, eL, eR, eU]
    generalize hYd : y * 2 ^ s.toNat = Y at *
    have hloe : lo * 2 ^ s.toNat = lo / 2 ^ (64 - s).toNat * 18446744073709551616 + lo * 2 ^ s.toNat % 18446744073709551616 := by
      have d := Int.mul_ediv_add_emod lo (2 ^ (64 - s).toNat)
      have m0 := Int.emod_nonneg lo (b := 2 ^ (64 - s).toNat) (by omega)
      have m1 := Int.emod_lt_of_pos lo hpp1
      have ee : lo * 2 ^ s.toNat = lo / 2 ^ (64 - s).toNat * 18446744073709551616 + lo % 2 ^ (64 - s).toNat * 2 ^ s.toNat := by
        have : (2 ^ (64 - s).toNat * (lo / 2 ^ (64 - s).toNat) + lo % 2 ^ (64 - s).toNat) * 2 ^ s.toNat = lo * 2 ^ s.toNat := by rw [d]
        rw [← this, Int.add_mul, Int.mul_comm (2 ^ (64 - s).toNat) _, Int.mul_assoc, Int.mul_comm (2 ^ (64 - s).toNat) _, hpp]
      have m2 : 0 ≤ lo % 2 ^ (64 - s).toNat * 2 ^ s.toNat := Int.mul_nonneg m0 (Int.le_of_lt hpp0)
      have m3 : lo % 2 ^ (64 - s).toNat * 2 ^ s.toNat < 18446744073709551616 := by
        have := Int.mul_lt_mul_of_pos_right m1 hpp0
        rw [Int.mul_comm (2 ^ (64 - s).toNat) _, hpp] at this
        exact this
      omega
    have hU1 : hi * 2 ^ s.toNat + lo / 2 ^ (64 - s).toNat < Y := by omega
    generalize hUd : hi * 2 ^ s.toNat + lo / 2 ^ (64 - s).toNat = U at *
    have hU0 : 0 ≤ U := by omega
    have a0 : 0 ≤ lo * 2 ^ s.toNat % 18446744073709551616 := Int.emod_nonneg _ (by decide)
    have a1 : lo * 2 ^ s.toNat % 18446744073709551616 < 18446744073709551616 := Int.emod_lt_of_pos _ (by decide)
    generalize hun : lo * 2 ^ s.toNat % 18446744073709551616 = un10 at *
    refine Ev.pos hs0 (Ev.pos (by omega) (Ev.neg (by omega) ?_))
    rw [and32 (by omega) hp1, and32 a0 a1, Int.tdiv_eq_ediv_of_nonneg hU0]
    obtain ⟨g1, g2, g3, g4, g5⟩ := digit_guess (u := U) (d := un10 / 4294967296) (yn1 := Y / 4294967296) (yn0 := Y % 4294967296) (by omega) (by omega) (by omega) hU0 (by omega) (by omega) (by omega)
    rw [u64i (x := U / (Y / 4294967296)) g2 (by omega), u64i (x := U / (Y / 4294967296) * (Y / 4294967296)) (Int.mul_nonneg g2 (by omega)) (by omega), u64i (x := U - _) g4 (by omega)]
    have hYe : Y / 4294967296 * 4294967296 + Y % 4294967296 = Y := by omega
    have j := div_j2 (Y := Y) (s := s) (u := U) (d := un10 / 4294967296) (e := un10 % 4294967296) hp0 hp1 hs0 hU0 hU1 (by omega) (by omega) (by omega) (by omega)
    have hN : (U * 4294967296 + un10 / 4294967296) * 4294967296 + un10 % 4294967296 = (hi * 18446744073709551616 + lo) * 2 ^ s.toNat := by
      rw [Int.add_mul (hi * 18446744073709551616) lo, hloe, Int.mul_right_comm hi]
      generalize hi * 2 ^ s.toNat = z at *
      omega
    rw [hN, hmin] at j
    have e1 : (hi * 18446744073709551616 + lo) * 2 ^ s.toNat / Y = (hi * 18446744073709551616 + lo) / y := by rw [← hYd, Int.mul_ediv_mul_of_pos_left _ _ hpp0]
    have e2 : (hi * 18446744073709551616 + lo) * 2 ^ s.toNat % Y = 2 ^ s.toNat * ((hi * 18446744073709551616 + lo) % y) := by rw [← hYd, Int.mul_comm _ (2 ^ s.toNat), Int.mul_comm y, Int.mul_emod_mul_of_pos _ _ hpp0]
    rw [e1, e2, Int.mul_ediv_cancel_left _ (by omega)] at j
    refine div_l0 (by omega) (by omega) (by omega) (by omega) hU0 (by omega) (by omega) (by omega) (by rw [hYe]; exact j) (U / (Y / 4294967296) - (U * 4294967296 + un10 / 4294967296) / (Y / 4294967296 * 4294967296 + Y % 4294967296)).toNat (U / (Y / 4294967296)) (U - U / (Y / 4294967296) * (Y / 4294967296)) (by omega) g1 g2 g3 rfl g4 (by omega)
end Go.Proofs.Ytmagefemmhfkaaa.Q

namespace Go.Proofs.Ytmagefemmhfkaaa.Q
open Go Go.RowKit Go.Proofs.Ytmagefemmhfkaaa.PA Go.Proofs.YtmagefemmhfkaaaW.PrintWords Go.Proofs.YtmagefemmhfkaaaW.PrintLast Go.Proofs.YtmagefemmhfkaaaW.PrintMore
set_option linter.unusedVariables false
set_option linter.unusedSimpArgs false
def May (x : Int) : Prop := -9223372036854775808 < x ∧ x ≤ 9223372036854775807
instance (x : Int) : Decidable (May x) := by unfold May; infer_instance
theorem may_f {x : Int} (h0 : -9223372036854775808 ≤ x) (h1 : x ≤ 9223372036854775807) : dec_May.f x = some (decide (May x)) := by
  unfold dec_May.f
  congr 1
  rw [Bool.eq_iff_iff, bne_iff_ne, decide_eq_true_iff]
  unfold May; omega
theorem rmay_f {x : Int} (h0 : -9223372036854775808 ≤ x) (h1 : x ≤ 9223372036854775807) : oculusref08_May.f x = some (decide (May x)) := by
  unfold oculusref08_May.f May
  congr 2
  apply propext; omega
def sg (a b c q : Int) : Int := if ((decide (a < 0) != decide (b < 0)) != decide (c < 0)) = true then -q else q
theorem sign_f (x : Int) : dec_Sign.f x = some (if x < 0 then -1 else if x > 0 then 1 else 0) := by
  unfold dec_Sign.f
  split
  · rfl
  · split <;> rfl
def upP (n m : Int) : Int := if m - n % m ≤ n % m then (n / m + 1) % 18446744073709551616 else n / m
def scaledP (a b c : Int) : Int × Bool :=
  if May a ∧ May b ∧ May c ∧ c ≠ 0 then
    (if a.natAbs * b.natAbs / 18446744073709551616 ≥ (c.natAbs : Int) then (0, false)
     else if upP (a.natAbs * b.natAbs) c.natAbs > 9223372036854775807 then (0, false) else (sg a b c (upP (a.natAbs * b.natAbs) c.natAbs), true))
  else (0, false)
def upR (n m : Int) : Int := if m - n % m ≤ n % m then n / m + 1 else n / m
def scaledR (a b c : Int) : Int × Bool :=
  if May a ∧ May b ∧ May c ∧ c ≠ 0 then
    (if (a.natAbs * b.natAbs : Int) / c.natAbs > 9223372036854775807 then (0, false)
     else if upR (a.natAbs * b.natAbs) c.natAbs > 9223372036854775807 then (0, false) else (sg a b c (upR (a.natAbs * b.natAbs) c.natAbs), true))
  else (0, false)
theorem scaled_j1 {a b c q : Int} (hc : c ≠ 0) (h0 : 0 ≤ q) (h1 : q ≤ 9223372036854775807) (hz : a = 0 ∨ b = 0 → q = 0) : Ev (fun k => dec_Scaled.j1 k a b c q) (sg a b c q, true) := by
  refine Ev.step (fun k => by rw [dec_Scaled.j1]) ?_
  refine Ev.neg (by omega) ?_
  simp only [sign_f, Option.bind_some]
  rw [w64 (x := q) (by omega) (by omega), w64 (x := -q) (by omega) (by omega)]
  unfold sg
  rcases Int.lt_trichotomy a 0 with ha | ha | ha
  · rcases Int.lt_trichotomy b 0 with hb | hb | hb
    · rcases Int.lt_trichotomy c 0 with h | h | h
      · simp only [if_pos ha, if_pos hb, if_pos h, decide_eq_true ha, decide_eq_true hb, decide_eq_true h]; exact ⟨0, fun _ _ => by simp [wrap64]⟩
      · omega
      · simp only [if_pos ha, if_pos hb, if_neg (show ¬ c < 0 by omega), if_pos (show c > 0 from h), decide_eq_true ha, decide_eq_true hb, decide_eq_false (show ¬ c < 0 by omega)]; exact ⟨0, fun _ _ => by simp [wrap64]⟩
    · obtain rfl := hz (.inr hb); simp only [Int.neg_zero, ite_self]; exact ⟨0, fun _ _ => by simp [wrap64]⟩
    · rcases Int.lt_trichotomy c 0 with h | h | h
      · simp only [if_pos ha, if_neg (show ¬ b < 0 by omega), if_pos (show b > 0 from hb), if_pos h, decide_eq_true ha, decide_eq_false (show ¬ b < 0 by omega), decide_eq_true h]; exact ⟨0, fun _ _ => by simp [wrap64]⟩
      · omega
      · simp only [if_pos ha, if_neg (show ¬ b < 0 by omega), if_pos (show b > 0 from hb), if_neg (show ¬ c < 0 by omega), if_pos (show c > 0 from h), decide_eq_true ha, decide_eq_false (show ¬ b < 0 by omega), decide_eq_false (show ¬ c < 0 by omega)]; exact ⟨0, fun _ _ => by simp [wrap64]⟩
  · obtain rfl := hz (.inl ha); simp only [Int.neg_zero, ite_self]; exact ⟨0, fun _ _ => by simp [wrap64]⟩
  · rcases Int.lt_trichotomy b 0 with hb | hb | hb
    · rcases Int.lt_trichotomy c 0 with h | h | h
      · simp only [if_neg (show ¬ a < 0 by omega), if_pos (show a > 0 from ha), if_pos hb, if_pos h, decide_eq_false (show ¬ a < 0 by omega), decide_eq_true hb, decide_eq_true h]; exact ⟨0, fun _ _ => by simp [wrap64]⟩
      · omega
      · simp only [if_neg (show ¬ a < 0 by omega), if_pos (show a > 0 from ha), if_pos hb, if_neg (show ¬ c < 0 by omega), if_pos (show c > 0 from h), decide_eq_false (show ¬ a < 0 by omega), decide_eq_true hb, decide_eq_false (show ¬ c < 0 by omega)]; exact ⟨0, fun _ _ => by simp [wrap64]⟩
    · obtain rfl := hz (.inr hb); simp only [Int.neg_zero, ite_self]; exact ⟨0, fun _ _ => by simp [wrap64]⟩
    · rcases Int.lt_trichotomy c 0 with h | h | h
      · simp only [if_neg (show ¬ a < 0 by omega), if_pos (show a > 0 from ha), if_neg (show ¬ b < 0 by omega), if_pos (show b > 0 from hb), if_pos h, decide_eq_false (show ¬ a < 0 by omega), decide_eq_false (show ¬ b < 0 by omega), decide_eq_true h]; exact ⟨0, fun _ _ => by simp [wrap64]⟩
      · omega
      · simp only [if_neg (show ¬ a < 0 by omega), if_pos (show a > 0 from ha), if_neg (show ¬ b < 0 by omega), if_pos (show b > 0 from hb), if_neg (show ¬ c < 0 by omega), if_pos (show c > 0 from h), decide_eq_false (show ¬ a < 0 by omega), decide_eq_false (show ¬ b < 0 by omega), decide_eq_false (show ¬ c < 0 by omega)]; exact ⟨0, fun _ _ => by simp [wrap64]⟩
theorem natAbs_lt {x : Int} (h : May x) : 0 ≤ (x.natAbs : Int) ∧ (x.natAbs : Int) ≤ 9223372036854775807 := by unfold May at h; omega
theorem abs_prod {a b : Int} (ha : May a) (hb : May b) : 0 ≤ (a.natAbs : Int) * b.natAbs ∧ (a.natAbs : Int) * b.natAbs ≤ 85070591730234615847396907784232501249 :=
  ⟨Int.mul_nonneg (natAbs_lt ha).1 (natAbs_lt hb).1, Int.le_trans (Int.mul_le_mul (natAbs_lt ha).2 (natAbs_lt hb).2 (natAbs_lt hb).1 (by decide)) (by decide)⟩
theorem scaled_ev {a b c : Int} (ha0 : -9223372036854775808 ≤ a) (ha1 : a ≤ 9223372036854775807) (hb0 : -9223372036854775808 ≤ b) (hb1 : b ≤ 9223372036854775807) (hc0 : -9223372036854775808 ≤ c) (hc1 : c ≤ 9223372036854775807) :
    Ev (fun k => dec_Scaled.f k a b c) (scaledP a b c) := by
  have no : Ev (fun k => dec_Scaled.j0 k a b c true) (0, false) := Ev.step (fun k => by rw [dec_Scaled.j0]) (Ev.pos rfl (Ev.now _))
  refine Ev.congr (fun k => by rw [dec_Scaled.f, may_f ha0 ha1, Option.bind_some]) ?_
  by_cases ha : May a
  · refine Ev.pos (decide_eq_true ha) ?_
    refine Ev.congr (fun k => by rw [may_f hb0 hb1, Option.bind_some]) ?_
    by_cases hb : May b
    · refine Ev.pos (decide_eq_true hb) ?_
      refine Ev.congr (fun k => by rw [may_f hc0 hc1, Option.bind_some]) ?_
      by_cases hc : May c
      · refine Ev.pos (decide_eq_true hc) ?_
        by_cases hz : c = 0
        · rw [show (c == 0) = true from beq_iff_eq.mpr hz, show scaledP a b c = (0, false) from if_neg (fun h => h.2.2.2 hz)]; exact no
        · rw [show (c == 0) = false from beq_eq_false_iff_ne.mpr hz, show scaledP a b c = _ from if_pos ⟨ha, hb, hc, hz⟩]
          refine Ev.step (fun k => by rw [dec_Scaled.j0]) (Ev.neg (by decide) ?_)
          unfold May at ha hb hc
          simp only [size_f c hc.1 hc.2, size_f a ha.1 ha.2, size_f b hb.1 hb.2, Option.bind_some]
          rw [mul64_f _ _ (by omega) (by omega) (by omega) (by omega)]
          simp only [Option.bind_some]
          have hp := abs_prod ha hb
          have hm : 0 < (c.natAbs : Int) := by omega
          by_cases ho : (a.natAbs : Int) * b.natAbs / 18446744073709551616 ≥ (c.natAbs : Int)
          · rw [if_pos ho]; exact Ev.pos ho (Ev.now _)
          · rw [if_neg ho]
            refine Ev.neg ho ?_
            have hd := div64_ev (hi := (a.natAbs : Int) * b.natAbs / 18446744073709551616) (lo := (a.natAbs : Int) * b.natAbs % 18446744073709551616) (y := (c.natAbs : Int)) (by omega) (by omega) (by omega) (by omega) (by omega) (by omega)
            rw [show (a.natAbs : Int) * b.natAbs / 18446744073709551616 * 18446744073709551616 + (a.natAbs : Int) * b.natAbs % 18446744073709551616 = (a.natAbs : Int) * b.natAbs by omega] at hd
            refine Ev.bind hd ?_
            dsimp only
            have hr0 := Int.emod_nonneg ((a.natAbs : Int) * b.natAbs) (b := (c.natAbs : Int)) (by omega)
            have hr1 := Int.emod_lt_of_pos ((a.natAbs : Int) * b.natAbs) hm
            have hq0 : 0 ≤ (a.natAbs : Int) * b.natAbs / (c.natAbs : Int) := Int.ediv_nonneg hp.1 (by omega)
            have hz' : a = 0 ∨ b = 0 → upP (a.natAbs * b.natAbs) c.natAbs = 0 := by
              intro h
              have : (a.natAbs : Int) * b.natAbs = 0 := by
                rcases h with rfl | rfl <;> simp
              unfold upP
              rw [this, Int.zero_ediv, Int.zero_emod, if_neg (by omega)]
            have key : Ev (fun k => dec_Scaled.j1 k a b c (upP (a.natAbs * b.natAbs) c.natAbs)) (if upP (a.natAbs * b.natAbs) c.natAbs > 9223372036854775807 then (0, false) else (sg a b c (upP (a.natAbs * b.natAbs) c.natAbs), true)) := by
              by_cases hq : upP (a.natAbs * b.natAbs) c.natAbs > 9223372036854775807
              · rw [if_pos hq]; exact Ev.step (fun k => by rw [dec_Scaled.j1]) (Ev.pos hq (Ev.now _))
              · rw [if_neg hq]
                refine scaled_j1 hz ?_ (by omega) hz'
                unfold upP; split <;> omega
            rw [u64i (x := (c.natAbs : Int) - (a.natAbs : Int) * b.natAbs % (c.natAbs : Int)) (by omega) (by omega)]
            by_cases hu : (a.natAbs : Int) * b.natAbs % (c.natAbs : Int) ≥ (c.natAbs : Int) - (a.natAbs : Int) * b.natAbs % (c.natAbs : Int)
            · refine Ev.pos hu ?_
              rw [u64w]
              have e : upP (a.natAbs * b.natAbs) c.natAbs = ((a.natAbs : Int) * b.natAbs / (c.natAbs : Int) + 1) % 18446744073709551616 := if_pos hu
              rw [← e]; exact key
            · refine Ev.neg hu ?_
              have e : upP (a.natAbs * b.natAbs) c.natAbs = (a.natAbs : Int) * b.natAbs / (c.natAbs : Int) := if_neg hu
              rw [← e]; exact key
      · rw [show scaledP a b c = (0, false) from if_neg (fun h => hc h.2.2.1)]
        exact Ev.neg (by rw [decide_eq_false hc]; decide) no
    · rw [show scaledP a b c = (0, false) from if_neg (fun h => hb h.2.1)]
      exact Ev.neg (by rw [decide_eq_false hb]; decide) no
  · rw [show scaledP a b c = (0, false) from if_neg (fun h => ha h.1)]
    exact Ev.neg (by rw [decide_eq_false ha]; decide) no
theorem rscaled_j2 {a b c q : Int} (h0 : 0 ≤ q) (h1 : q ≤ 9223372036854775807) : Ev (fun k => oculusref08_Scaled.j2 k a b c q) (sg a b c q, true) := by
  refine Ev.step (fun k => by rw [oculusref08_Scaled.j2]) ?_
  refine Ev.neg (by omega) ?_
  rw [w64 (x := q) (by omega) (by omega), w64 (x := -q) (by omega) (by omega), w64 (x := - -q) (by omega) (by omega)]
  unfold sg
  by_cases hx : (decide (a < 0) != decide (b < 0)) = true
  · refine Ev.pos hx ?_
    rw [hx]
    by_cases hc : c < 0
    · refine Ev.pos hc ?_
      rw [decide_eq_true hc, Int.neg_neg]; exact Ev.now _
    · refine Ev.neg hc ?_
      rw [decide_eq_false hc]; exact Ev.now _
  · refine Ev.neg hx ?_
    rw [Bool.eq_false_iff.mpr hx]
    by_cases hc : c < 0
    · refine Ev.pos hc ?_
      rw [decide_eq_true hc]; exact Ev.now _
    · refine Ev.neg hc ?_
      rw [decide_eq_false hc]; exact Ev.now _
theorem rscaled_ev {a b c : Int} (ha0 : -9223372036854775808 ≤ a) (ha1 : a ≤ 9223372036854775807) (hb0 : -9223372036854775808 ≤ b) (hb1 : b ≤ 9223372036854775807) (hc0 : -9223372036854775808 ≤ c) (hc1 : c ≤ 9223372036854775807) :
    Ev (fun k => oculusref08_Scaled.f k a b c) (scaledR a b c) := by
  have no : Ev (fun k => oculusref08_Scaled.j0 k a b c true) (0, false) := Ev.step (fun k => by rw [oculusref08_Scaled.j0]) (Ev.pos rfl (Ev.now _))
  refine Ev.congr (fun k => by rw [oculusref08_Scaled.f, rmay_f ha0 ha1, Option.bind_some]) ?_
  by_cases ha : May a
  · refine Ev.pos (decide_eq_true ha) ?_
    refine Ev.congr (fun k => by rw [rmay_f hb0 hb1, Option.bind_some]) ?_
    by_cases hb : May b
    · refine Ev.pos (decide_eq_true hb) ?_
      refine Ev.congr (fun k => by rw [rmay_f hc0 hc1, Option.bind_some]) ?_
      by_cases hc : May c
      · refine Ev.pos (decide_eq_true hc) ?_
        by_cases hz : c = 0
        · rw [show (c == 0) = true from beq_iff_eq.mpr hz, show scaledR a b c = (0, false) from if_neg (fun h => h.2.2.2 hz)]; exact no
        · rw [show (c == 0) = false from beq_eq_false_iff_ne.mpr hz, show scaledR a b c = _ from if_pos ⟨ha, hb, hc, hz⟩]
          refine Ev.step (fun k => by rw [oculusref08_Scaled.j0]) (Ev.neg (by decide) ?_)
          unfold May at ha hb hc
          simp only [abs_f c hc.1 hc.2, abs_f a ha.1 ha.2, abs_f b hb.1 hb.2, Option.bind_some]
          rw [times_f _ _ (by omega) (by omega) (by omega) (by omega)]
          simp only [Option.bind_some]
          have hp := abs_prod ha hb
          have hm : 0 < (c.natAbs : Int) := by omega
          obtain ⟨Q', hd, hQ, hQ0, hQ1⟩ := divide_ev (H := (a.natAbs : Int) * b.natAbs / 18446744073709551616) (L := (a.natAbs : Int) * b.natAbs % 18446744073709551616) (b := (c.natAbs : Int)) hm (by omega) (by omega) (by omega) (by omega) (by omega)
          rw [show (a.natAbs : Int) * b.natAbs / 18446744073709551616 * 18446744073709551616 + (a.natAbs : Int) * b.natAbs % 18446744073709551616 = (a.natAbs : Int) * b.natAbs by omega] at hd hQ
          refine Ev.bind hd ?_
          dsimp only
          have hr0 := Int.emod_nonneg ((a.natAbs : Int) * b.natAbs) (b := (c.natAbs : Int)) (by omega)
          have hr1 := Int.emod_lt_of_pos ((a.natAbs : Int) * b.natAbs) hm
          have hq0 : 0 ≤ (a.natAbs : Int) * b.natAbs / (c.natAbs : Int) := Int.ediv_nonneg hp.1 (by omega)
          have stop : ∀ Q R ok, Ev (fun k => oculusref08_Scaled.j1 k a b c (c.natAbs : Int) true Q R ok) (0, false) := fun Q R ok => Ev.step (fun k => by rw [oculusref08_Scaled.j1]) (Ev.pos rfl (Ev.now _))
          generalize hdd : decide ((a.natAbs : Int) * b.natAbs / (c.natAbs : Int) < 18446744073709551616) = dd
          by_cases h64 : (a.natAbs : Int) * b.natAbs / (c.natAbs : Int) < 18446744073709551616
          · obtain rfl : dd = true := by rw [← hdd]; exact decide_eq_true h64
            refine Ev.pos rfl ?_
            have eQ := hQ h64
            rw [eQ]
            by_cases ho : (a.natAbs : Int) * b.natAbs / (c.natAbs : Int) > 9223372036854775807
            · rw [if_pos ho, decide_eq_true ho]; exact stop _ _ _
            · rw [if_neg ho, decide_eq_false ho]
              refine Ev.step (fun k => by rw [oculusref08_Scaled.j1]) (Ev.neg (by decide) ?_)
              have key : Ev (fun k => oculusref08_Scaled.j2 k a b c (upR (a.natAbs * b.natAbs) c.natAbs)) (if upR (a.natAbs * b.natAbs) c.natAbs > 9223372036854775807 then (0, false) else (sg a b c (upR (a.natAbs * b.natAbs) c.natAbs), true)) := by
                by_cases hq : upR (a.natAbs * b.natAbs) c.natAbs > 9223372036854775807
                · rw [if_pos hq]; exact Ev.step (fun k => by rw [oculusref08_Scaled.j2]) (Ev.pos hq (Ev.now _))
                · rw [if_neg hq]
                  refine rscaled_j2 ?_ (by omega)
                  unfold upR; split <;> omega
              rw [u64i (x := (c.natAbs : Int) - (a.natAbs : Int) * b.natAbs % (c.natAbs : Int)) (by omega) (by omega)]
              by_cases hu : (c.natAbs : Int) - (a.natAbs : Int) * b.natAbs % (c.natAbs : Int) ≤ (a.natAbs : Int) * b.natAbs % (c.natAbs : Int)
              · refine Ev.pos hu ?_
                rw [u64i (x := (a.natAbs : Int) * b.natAbs / (c.natAbs : Int) + 1) (by omega) (by omega)]
                have e : upR (a.natAbs * b.natAbs) c.natAbs = (a.natAbs : Int) * b.natAbs / (c.natAbs : Int) + 1 := if_pos hu
                rw [← e]; exact key
              · refine Ev.neg hu ?_
                have e : upR (a.natAbs * b.natAbs) c.natAbs = (a.natAbs : Int) * b.natAbs / (c.natAbs : Int) := if_neg hu
                rw [← e]; exact key
          · rw [if_pos (by omega)]
            obtain rfl : dd = false := by rw [← hdd]; exact decide_eq_false h64
            refine Ev.neg (by decide) ?_
            exact stop _ _ _
      · rw [show scaledR a b c = (0, false) from if_neg (fun h => hc h.2.2.1)]
        exact Ev.neg (by rw [decide_eq_false hc]; decide) no
    · rw [show scaledR a b c = (0, false) from if_neg (fun h => hb h.2.1)]
      exact Ev.neg (by rw [decide_eq_false hb]; decide) no
  · rw [show scaledR a b c = (0, false) from if_neg (fun h => ha h.1)]
    exact Ev.neg (by rw [decide_eq_false ha]; decide) no
theorem scaled_eq {a b c : Int} (h : ¬ ((a.natAbs : Int) * b.natAbs / c.natAbs = 18446744073709551615 ∧ (c.natAbs : Int) - (a.natAbs : Int) * b.natAbs % c.natAbs ≤ (a.natAbs : Int) * b.natAbs % c.natAbs)) : scaledP a b c = scaledR a b c := by
  unfold scaledP scaledR
  by_cases hc : May a ∧ May b ∧ May c ∧ c ≠ 0
  · rw [if_pos hc, if_pos hc]
    have hp := abs_prod hc.1 hc.2.1
    have hm : 0 < (c.natAbs : Int) := by omega
    have hq0 : 0 ≤ (a.natAbs : Int) * b.natAbs / (c.natAbs : Int) := Int.ediv_nonneg hp.1 (by omega)
    have hiff : (a.natAbs : Int) * b.natAbs / 18446744073709551616 ≥ (c.natAbs : Int) ↔ ¬ (a.natAbs : Int) * b.natAbs / (c.natAbs : Int) < 18446744073709551616 := by
      rw [Int.ediv_lt_iff_lt_mul hm, Int.not_lt, ge_iff_le, Int.le_ediv_iff_mul_le (by decide), Int.mul_comm]
    unfold upP upR
    by_cases h64 : (a.natAbs : Int) * b.natAbs / (c.natAbs : Int) < 18446744073709551616
    · rw [if_neg (fun hh => hiff.1 hh h64)]
      by_cases hu : (c.natAbs : Int) - (a.natAbs : Int) * b.natAbs % (c.natAbs : Int) ≤ (a.natAbs : Int) * b.natAbs % (c.natAbs : Int)
      · simp only [if_pos hu]
        have : (a.natAbs : Int) * b.natAbs / (c.natAbs : Int) ≠ 18446744073709551615 := fun e => h ⟨e, hu⟩
        rw [show ((a.natAbs : Int) * b.natAbs / (c.natAbs : Int) + 1) % 18446744073709551616 = (a.natAbs : Int) * b.natAbs / (c.natAbs : Int) + 1 by omega]
        by_cases ho : (a.natAbs : Int) * b.natAbs / (c.natAbs : Int) > 9223372036854775807
        · rw [if_pos ho, if_pos (by omega)]
        · rw [if_neg ho]
      · simp only [if_neg hu]
        by_cases ho : (a.natAbs : Int) * b.natAbs / (c.natAbs : Int) > 9223372036854775807
        · simp only [if_pos ho]
        · simp only [if_neg ho]
    · rw [if_pos (hiff.2 h64), if_pos (by omega)]
  · rw [if_neg hc, if_neg hc]
end Go.Proofs.Ytmagefemmhfkaaa.Q

namespace Go.Proofs.Ytmagefemmhfkaaa.Q
open Go Go.RowKit Go.Proofs.Ytmagefemmhfkaaa.PA Go.Proofs.YtmagefemmhfkaaaW.PrintWords Go.Proofs.YtmagefemmhfkaaaW.PrintLast Go.Proofs.YtmagefemmhfkaaaW.PrintMore
set_option linter.unusedVariables false
set_option linter.unusedSimpArgs false
def I64 (x : Int) : Prop := -9223372036854775808 ≤ x ∧ x ≤ 9223372036854775807
theorem May.i {x : Int} (h : May x) : I64 x := by unfold May at h; unfold I64; omega
def addS (a b : Int) : Int × Bool := if May a ∧ May b ∧ May (a + b) then (a + b, true) else (0, false)
def negS (a : Int) : Int × Bool := if May a then (-a, true) else (0, false)
def subS (a b : Int) : Int × Bool := if May a ∧ May b ∧ May (a - b) then (a - b, true) else (0, false)
theorem addS_yes {a b : Int} (h : May a ∧ May b ∧ May (a + b)) : addS a b = (a + b, true) := if_pos h
theorem addS_no {a b : Int} (h : ¬ May (a + b)) : addS a b = (0, false) := if_neg (fun hh => h hh.2.2)
theorem add_f {a b : Int} (ha : I64 a) (hb : I64 b) : dec_Add.f a b = some (addS a b) := by
  unfold I64 at ha hb
  unfold dec_Add.f
  rw [may_f ha.1 ha.2, may_f hb.1 hb.2, Option.bind_some]
  by_cases h1 : May a
  · rw [if_pos (decide_eq_true h1), Option.bind_some]
    by_cases h2 : May b
    · rw [if_pos (decide_eq_true h2)]
      have hw := show -9223372036854775808 ≤ wrap64 (a + b) ∧ wrap64 (a + b) ≤ 9223372036854775807 by unfold wrap64; omega
      rw [may_f hw.1 hw.2, Option.bind_some]
      have m1 := h1; have m2 := h2
      unfold May at m1 m2
      by_cases h3 : May (a + b)
      · have m3 := h3
        unfold May at m3
        have ew : wrap64 (a + b) = a + b := w64 (by omega) (by omega)
        rw [show addS a b = (a + b, true) from if_pos ⟨h1, h2, h3⟩, ew, if_pos (decide_eq_true h3)]
        repeat' split
        all_goals first | rfl | (exfalso; omega)
      · rw [show addS a b = (0, false) from if_neg (fun h => h3 h.2.2)]
        by_cases h4 : May (wrap64 (a + b))
        · rw [if_pos (decide_eq_true h4)]
          unfold May at h3 h4
          unfold wrap64 at h4 ⊢
          repeat' split
          all_goals first | rfl | (exfalso; omega)
        · rw [if_neg (by rw [decide_eq_false h4]; decide)]
    · rw [if_neg (by rw [decide_eq_false h2]; decide), show addS a b = (0, false) from if_neg (fun h => h2 h.2.1)]
  · rw [if_neg (by rw [decide_eq_false h1]; decide), show addS a b = (0, false) from if_neg (fun h => h1 h.1)]
theorem radd_f {a b : Int} (ha : I64 a) (hb : I64 b) : oculusref08_Add.f a b = some (addS a b) := by
  unfold I64 at ha hb
  unfold oculusref08_Add.f
  rw [rmay_f ha.1 ha.2, rmay_f hb.1 hb.2, Option.bind_some]
  by_cases h1 : May a
  · rw [if_pos (decide_eq_true h1), Option.bind_some]
    by_cases h2 : May b
    · rw [if_pos (decide_eq_true h2)]
      have m1 := h1; have m2 := h2
      unfold May at m1 m2
      by_cases h3 : May (a + b)
      · have m3 := h3
        unfold May at m3
        rw [show addS a b = (a + b, true) from if_pos ⟨h1, h2, h3⟩, w64 (x := a + b) (by omega) (by omega)]
        unfold wrap64
        repeat' split
        all_goals first | rfl | (exfalso; omega)
      · rw [show addS a b = (0, false) from if_neg (fun h => h3 h.2.2)]
        unfold May at h3
        unfold wrap64
        repeat' split
        all_goals first | rfl | (exfalso; omega)
    · rw [if_neg (by rw [decide_eq_false h2]; decide), show addS a b = (0, false) from if_neg (fun h => h2 h.2.1)]
  · rw [if_neg (by rw [decide_eq_false h1]; decide), show addS a b = (0, false) from if_neg (fun h => h1 h.1)]
theorem neg_f {a : Int} (ha : I64 a) : dec_Neg.f a = some (negS a) := by
  unfold I64 at ha
  unfold dec_Neg.f negS
  rw [may_f ha.1 ha.2, Option.bind_some]
  by_cases h1 : May a
  · rw [if_pos (decide_eq_true h1), if_pos h1]; have m1 := h1; unfold May at m1; rw [w64 (by omega) (by omega)]
  · rw [if_neg (by rw [decide_eq_false h1]; decide), if_neg h1]
theorem addS_neg {a b : Int} (hb : May b) : addS a (-b) = subS a b := by
  unfold addS subS
  by_cases h : May a ∧ May b ∧ May (a - b)
  · rw [if_pos h, if_pos ⟨h.1, by unfold May at *; omega, by rw [← Int.sub_eq_add_neg]; exact h.2.2⟩, Int.sub_eq_add_neg]
  · rw [if_neg h, if_neg (fun hh => h ⟨hh.1, hb, by rw [Int.sub_eq_add_neg]; exact hh.2.2⟩)]
theorem sub_f {a b : Int} (ha : I64 a) (hb : I64 b) : dec_Sub.f a b = some (subS a b) := by
  unfold dec_Sub.f
  rw [neg_f hb, Option.bind_some]
  unfold negS
  by_cases h : May b
  · rw [if_pos h, if_pos rfl, add_f ha (by unfold May at h; unfold I64; omega), Option.bind_some, addS_neg h]
  · rw [if_neg h, if_neg (by decide)]; unfold subS; rw [if_neg (fun hh => h hh.2.1)]
theorem tdm (a : Int) {m : Int} (hm : 0 < m) : a = a.tdiv m * m + a.tmod m ∧ (0 ≤ a → 0 ≤ a.tmod m ∧ a.tmod m < m) ∧ (a ≤ 0 → -m < a.tmod m ∧ a.tmod m ≤ 0) := by
  refine ⟨(Int.tdiv_mul_add_tmod a m).symm, fun h => ⟨Int.tmod_nonneg _ h, Int.tmod_lt_of_pos _ hm⟩, fun h => ?_⟩
  have h1 := Int.tmod_nonneg m (a := -a) (by omega)
  have h2 := Int.tmod_lt_of_pos (-a) hm
  rw [Int.neg_tmod] at h1 h2
  omega
theorem tdlow (a : Int) {m : Int} (hm : 0 < m) : (0 ≤ a → 0 ≤ a.tdiv m * m) ∧ (a ≤ 0 → a.tdiv m * m ≤ 0) := by
  refine ⟨fun h => Int.mul_nonneg (Int.tdiv_nonneg h (Int.le_of_lt hm)) (Int.le_of_lt hm), fun h => ?_⟩
  have := Int.mul_nonneg (Int.tdiv_nonneg (a := -a) (by omega) (Int.le_of_lt hm)) (Int.le_of_lt hm)
  rw [Int.neg_tdiv, Int.neg_mul] at this
  omega
theorem units_f {a : Int} (ha : I64 a) : dec_Units.f a = some (if May a then a.tdiv 10000 else 0) := by
  have t := tdm a (m := 10000) (by decide)
  unfold I64 at ha
  unfold dec_Units.f
  rw [may_f ha.1 ha.2, Option.bind_some]
  by_cases h1 : May a
  · rw [if_pos (decide_eq_true h1), if_pos h1, w64 (by omega) (by omega)]
  · rw [if_neg (by rw [decide_eq_false h1]; decide), if_neg h1]
theorem whole_f {a : Int} (ha : I64 a) : dec_Whole.f a = some (decide (a.tmod 10000 = 0 ∧ May a)) := by
  unfold I64 at ha
  unfold dec_Whole.f
  by_cases h : a.tmod 10000 = 0
  · rw [if_pos h, may_f ha.1 ha.2, Option.bind_some]; simp [h]
  · rw [if_neg h]; simp [h]
theorem alive08 : Ev (fun k => oculuslaw08_alive.f k) true := Ev.of (fun k => oculuslaw08_alive.mono k) (k := 300) (by kernel_rfl)
end Go.Proofs.Ytmagefemmhfkaaa.Q

namespace Go.Proofs.Ytmagefemmhfkaaa.Q
open Go Go.RowKit Go.Proofs.Ytmagefemmhfkaaa.PA Go.Proofs.YtmagefemmhfkaaaW.PrintWords Go.Proofs.YtmagefemmhfkaaaW.PrintLast Go.Proofs.YtmagefemmhfkaaaW.PrintMore
set_option linter.unusedVariables false
set_option linter.unusedSimpArgs false
def srt (l : List Int) : List Int := l.mergeSort fun x y => decide (x ≤ y)
theorem srt_perm (l : List Int) : (srt l).Perm l := List.mergeSort_perm _ _
theorem srt_len (l : List Int) : (srt l).length = l.length := (srt_perm l).length_eq
theorem srt_sorted (l : List Int) : (srt l).Pairwise (· ≤ ·) := by
  have := List.pairwise_mergeSort (le := fun x y : Int => decide (x ≤ y)) (fun a b c h1 h2 => by simp at *; omega) (fun a b => by simp; omega) l
  exact this.imp (fun h => of_decide_eq_true h)
theorem srt_unique {l o : List Int} (h : o.Pairwise (· ≤ ·)) (hp : o.Perm l) : o = srt l :=
  List.Perm.eq_of_pairwise (fun a b _ _ h1 h2 => Int.le_antisymm h1 h2) h (srt_sorted l) (hp.trans (srt_perm l).symm)
theorem rd_get {l : List Int} {i : Nat} (h : i < l.length) : rd l (i : Int) = l[i] := by
  unfold rd
  rw [Int.toNat_natCast, List.getD_eq_getElem?_getD, List.getElem?_eq_getElem h]
  rfl
theorem rd_drop {l : List Int} {i : Nat} (h : i < l.length) : l.drop i = rd l (i : Int) :: l.drop (i + 1) := by
  rw [List.drop_eq_getElem_cons h, rd_get h]
theorem rd_mem {l : List Int} {x : Int} (h0 : 0 ≤ x) (h1 : x < (l.length : Int)) : rd l x ∈ l := by
  obtain ⟨i, rfl⟩ : ∃ i : Nat, x = i := ⟨x.toNat, by omega⟩
  rw [rd_get (by omega)]
  exact List.getElem_mem _
def Few (l : List Int) : Prop := l.length ≤ 17592186043904
def rightS (l : List Int) : Bool := l.all (fun x => decide (May x)) && decide ((l.length : Int) ≤ 200)
theorem right_l0 {l : List Int} (hi : ∀ x ∈ l, I64 x) (hl : Few l) (d : Nat) : ∀ i : Nat, i + d = l.length → Ev (fun k => oculuslaw16_right.l0 k l l (l.length : Int) (i : Int)) ((l.drop i).all (fun x => decide (May x)) && decide ((l.length : Int) ≤ 200)) := by
  unfold Few at hl
  induction d with
  | zero =>
    intro i h
    refine Ev.step (fun k => by rw [oculuslaw16_right.l0]) (Ev.neg (by omega) ?_)
    rw [List.drop_eq_nil_of_le (by omega)]
    exact Ev.now _
  | succ d ih =>
    intro i h
    refine Ev.step (fun k => by rw [oculuslaw16_right.l0]) (Ev.pos (by omega) (Ev.pos (by omega) (Ev.pos (by omega) ?_)))
    have hx := hi _ (rd_mem (l := l) (x := (i : Int)) (by omega) (by omega))
    rw [w64 (x := (i : Int) + 1) (by omega) (by omega), rd_drop (l := l) (i := i) (by omega), List.all_cons]
    refine Ev.some_bind (rmay_f hx.1 hx.2) ?_
    by_cases hm : May (rd l (i : Int))
    · refine Ev.pos (decide_eq_true hm) ?_
      rw [decide_eq_true hm, Bool.true_and]
      exact ih (i + 1) (by omega)
    · refine Ev.neg (by rw [decide_eq_false hm]; decide) ?_
      rw [decide_eq_false hm]
      exact Ev.now _
theorem right_ev {l : List Int} (hi : ∀ x ∈ l, I64 x) (hl : Few l) : Ev (fun k => oculuslaw16_right.f k l) (rightS l) :=
  Ev.congr (fun k => by rw [oculuslaw16_right.f]; rfl) (right_l0 hi hl l.length 0 (Nat.zero_add _))
theorem times_l0 {x : Int} {l : List Int} (hl : Few l) (d : Nat) : ∀ i n : Nat, i + d = l.length → n ≤ i → Ev (fun k => oculusref16_Times.l0 k x l (n : Int) (i : Int)) ((n + (l.drop i).count x : Nat) : Int) := by
  unfold Few at hl
  induction d with
  | zero =>
    intro i n h hn
    refine Ev.step (fun k => by rw [oculusref16_Times.l0]) (Ev.neg (by omega) ?_)
    rw [List.drop_eq_nil_of_le (by omega)]
    exact Ev.now _
  | succ d ih =>
    intro i n h hn
    refine Ev.step (fun k => by rw [oculusref16_Times.l0]) (Ev.pos (by omega) (Ev.pos (by omega) ?_))
    rw [w64 (x := (i : Int) + 1) (by omega) (by omega), w64 (x := (n : Int) + 1) (by omega) (by omega), rd_drop (l := l) (i := i) (by omega), List.count_cons]
    by_cases hx : rd l (i : Int) = x
    · refine Ev.pos hx ?_
      have := ih (i + 1) (n + 1) (by omega) (by omega)
      rw [if_pos (by simp [hx])]
      rw [show n + 1 + (l.drop (i + 1)).count x = n + ((l.drop (i + 1)).count x + 1) by omega] at this
      exact this
    · refine Ev.neg hx ?_
      rw [if_neg (by simp [hx]), Nat.add_zero]
      exact ih (i + 1) n (by omega) (by omega)
theorem times_ev {x : Int} {l : List Int} (hl : Few l) : Ev (fun k => oculusref16_Times.f k x l) ((l.count x : Nat) : Int) := by
  have := times_l0 (x := x) hl l.length 0 0 (Nat.zero_add _) (Nat.le_refl _)
  rw [Nat.zero_add, List.drop_zero] at this
  exact Ev.congr (fun k => by rw [oculusref16_Times.f]; rfl) this
theorem put_l1 {l o : List Int} {i : Nat} {r : List Int} (hl : Few l) (hi : i < l.length) (ho : o.length = i)
    (next : ∀ j : Nat, j ≤ o.length → (∀ y ∈ o.take j, y ≤ rd l (i : Int)) → (j < o.length → rd l (i : Int) < rd o (j : Int)) → Ev (fun k => oculusref16_Sorted.l0 k l (o.take j ++ [rd l (i : Int)] ++ o.drop j) ((i : Int) + 1)) r)
    (d : Nat) : ∀ j : Nat, j + d = o.length → (∀ y ∈ o.take j, y ≤ rd l (i : Int)) → Ev (fun k => oculusref16_Sorted.l1 k l o (i : Int) (j : Int)) r := by
  unfold Few at hl
  have ew : wrap64 ((i : Int) + 1) = (i : Int) + 1 := w64 (by omega) (by omega)
  have tail : ∀ j : Nat, j ≤ o.length → (∀ y ∈ o.take j, y ≤ rd l (i : Int)) → (j < o.length → rd l (i : Int) < rd o (j : Int)) →
      Ev (fun k => (some (o.take ((j : Int)).toNat : List Int)).bind fun y604 => (if ([] : List Int).length + y604.length < 17592186044416 then ((some (([] : List Int) ++ y604 : List Int)).bind fun y608 => (if y608.length < 17592186044416 then ((some (y608 ++ [rd l (i : Int)] : List Int)).bind fun y612 => ((some (o.drop ((j : Int)).toNat : List Int)).bind fun y615 => (if y612.length + y615.length < 17592186044416 then (oculusref16_Sorted.l0 k l (y612 ++ y615) (wrap64 ((i : Int) + 1))) else (none)))) else (none))) else (none))) r := by
    intro j h1 h2 h3
    have h := next j h1 h2 h3
    rw [ew]
    refine Ev.some_bind rfl ?_
    rw [Int.toNat_natCast]
    refine Ev.pos (by rw [List.length_take]; simp; omega) (Ev.some_bind rfl ?_)
    rw [List.nil_append]
    refine Ev.pos (by rw [List.length_take]; omega) (Ev.some_bind rfl (Ev.some_bind rfl ?_))
    refine Ev.pos (by rw [List.length_append, List.length_take, List.length_drop, List.length_singleton]; omega) ?_
    exact h
  induction d with
  | zero =>
    intro j h hy
    refine Ev.step (fun k => by rw [oculusref16_Sorted.l1]) (Ev.neg (by omega) (Ev.pos (by omega) (Ev.pos (by omega) ?_)))
    have := tail j (by omega) hy (fun hh => by omega)
    refine Ev.some_bind rfl ?_
    have h2 := this
    simp only [Option.bind_some] at h2 ⊢
    refine Ev.pos (by rw [List.length_take]; simp; omega) (Ev.pos (by omega) (Ev.pos (by omega) ?_))
    rw [Int.toNat_natCast] at h2 ⊢
    refine Ev.congr (fun k => ?_) h2
    rw [if_pos (show ([] : List Int).length + (o.take j).length < 17592186044416 by rw [List.length_take]; simp; omega)]
  | succ d ih =>
    intro j h hy
    refine Ev.step (fun k => by rw [oculusref16_Sorted.l1]) (Ev.pos (by omega) (Ev.pos (by omega) (Ev.pos (by omega) (Ev.pos (by omega) ?_))))
    refine Ev.ite (fun hle => ?_) (fun hgt => ?_)
    · rw [w64 (x := (j : Int) + 1) (by omega) (by omega)]
      refine ih (j + 1) (by omega) ?_
      intro y hm
      rw [List.take_add_one, List.getElem?_eq_getElem (by omega)] at hm
      rcases List.mem_append.1 hm with hm | hm
      · exact hy y hm
      · rw [Option.toList_some, List.mem_singleton] at hm
        rw [hm, ← rd_get (by omega)]
        exact hle
    · exact Ev.pos (by omega) (tail j (by omega) hy (fun _ => by omega))
theorem sorted_l0 {l : List Int} (hl : Few l) (d : Nat) : ∀ (i : Nat) (o : List Int), i + d = l.length → o.Pairwise (· ≤ ·) → o.Perm (l.take i) → Ev (fun k => oculusref16_Sorted.l0 k l o (i : Int)) (srt l) := by
  induction d with
  | zero =>
    intro i o h hs hp
    refine Ev.step (fun k => by rw [oculusref16_Sorted.l0]) (Ev.neg (by omega) ?_)
    rw [List.take_of_length_le (by omega)] at hp
    rw [← srt_unique hs hp]
    exact Ev.now _
  | succ d ih =>
    intro i o h hs hp
    have ho : o.length = i := by rw [hp.length_eq, List.length_take]; omega
    refine Ev.step (fun k => by rw [oculusref16_Sorted.l0]) (Ev.pos (by omega) ?_)
    refine put_l1 hl (by omega) ho (fun j h1 h2 h3 => ?_) o.length 0 (Nat.zero_add _) (fun y hy => by simp at hy)
    have h4 : ∀ y ∈ o.drop j, rd l (i : Int) ≤ y := by
      intro y hy
      by_cases hj : j < o.length
      · have h5 := h3 hj
        have h6 := hs.sublist (List.drop_sublist j o)
        rw [rd_drop hj] at hy h6
        rcases List.mem_cons.1 hy with rfl | hy
        · omega
        · have := List.rel_of_pairwise_cons h6 hy
          omega
      · rw [List.drop_eq_nil_of_le (by omega)] at hy
        simp at hy
    have hs2 : (o.take j ++ [rd l (i : Int)] ++ o.drop j).Pairwise (· ≤ ·) := by
      rw [List.append_assoc, List.pairwise_append]
      refine ⟨hs.sublist (List.take_sublist j o), ?_, ?_⟩
      · rw [List.singleton_append, List.pairwise_cons]
        exact ⟨h4, hs.sublist (List.drop_sublist j o)⟩
      · intro a ha b hb
        have h5 := h2 a ha
        rw [List.singleton_append] at hb
        rcases List.mem_cons.1 hb with rfl | hb
        · exact h5
        · exact Int.le_trans h5 (h4 b hb)
    have hp2 : (o.take j ++ [rd l (i : Int)] ++ o.drop j).Perm (l.take (i + 1)) := by
      have e : l.take (i + 1) = l.take i ++ [rd l (i : Int)] := by
        rw [List.take_add_one, List.getElem?_eq_getElem (by omega), rd_get (by omega)]
        rfl
      rw [e]
      have h5 : (o.take j ++ [rd l (i : Int)] ++ o.drop j).Perm (o.take j ++ o.drop j ++ [rd l (i : Int)]) := by
        rw [List.append_assoc, List.append_assoc]
        exact List.Perm.append_left _ List.perm_append_comm
      rw [List.take_append_drop] at h5
      exact h5.trans (hp.append_right _)
    have := ih (i + 1) _ (by omega) hs2 hp2
    rw [show ((i + 1 : Nat) : Int) = (i : Int) + 1 by omega] at this
    exact this
theorem rsorted_ev {l : List Int} (hl : Few l) : Ev (fun k => oculusref16_Sorted.f k l) (srt l) :=
  Ev.congr (fun k => by rw [oculusref16_Sorted.f]; rfl) (sorted_l0 hl l.length 0 [] (Nat.zero_add _) List.Pairwise.nil (by rw [List.take_zero]))
def smallS (l : List Int) (a : Int) : Int × Bool := if 1 ≤ a ∧ a ≤ (l.length : Int) then (rd (srt l) (a - 1), true) else (0, false)
def largeS (l : List Int) (a : Int) : Int × Bool := if 1 ≤ a ∧ a ≤ (l.length : Int) then (rd (srt l) ((l.length : Int) - a), true) else (0, false)
theorem rsmall_ev {l : List Int} (hl : Few l) (a : Int) : Ev (fun k => oculusref16_Small.f k l a) (smallS l a) := by
  have hl' := hl
  unfold Few at hl'
  refine Ev.congr (fun k => by rw [oculusref16_Small.f]) ?_
  refine Ev.ite (fun h => ?_) (fun h => Ev.ite (fun h1 => ?_) (fun h1 => ?_))
  · rw [show smallS l a = _ from if_neg (by omega)]; exact Ev.now _
  · rw [show smallS l a = _ from if_neg (by omega)]; exact Ev.now _
  · refine Ev.bind (rsorted_ev hl) ?_
    rw [show smallS l a = _ from if_pos (by omega), w64 (x := a - 1) (by omega) (by omega), srt_len]
    exact Ev.pos (by omega) (Ev.pos (by omega) (Ev.now _))
theorem rlarge_ev {l : List Int} (hl : Few l) (a : Int) : Ev (fun k => oculusref16_Large.f k l a) (largeS l a) := by
  have hl' := hl
  unfold Few at hl'
  refine Ev.congr (fun k => by rw [oculusref16_Large.f]) ?_
  refine Ev.ite (fun h => ?_) (fun h => Ev.ite (fun h1 => ?_) (fun h1 => ?_))
  · rw [show largeS l a = _ from if_neg (by omega)]; exact Ev.now _
  · rw [show largeS l a = _ from if_neg (by omega)]; exact Ev.now _
  · refine Ev.bind (rsorted_ev hl) ?_
    rw [show largeS l a = _ from if_pos (by omega), w64 (x := (l.length : Int) - a) (by omega) (by omega), srt_len]
    exact Ev.pos (by omega) (Ev.pos (by omega) (Ev.now _))
theorem srt_i {l : List Int} (hi : ∀ x ∈ l, I64 x) {x : Int} (h0 : 0 ≤ x) (h1 : x < (l.length : Int)) : I64 (rd (srt l) x) :=
  hi _ ((srt_perm l).mem_iff.1 (rd_mem h0 (by rw [srt_len]; exact h1)))
def midS (l : List Int) : Int × Bool :=
  if l.length = 0 then (0, false)
  else if (l.length : Int) % 2 = 1 then (rd (srt l) ((l.length : Int) / 2), true)
  else if (addS (rd (srt l) ((l.length : Int) / 2 - 1)) (rd (srt l) ((l.length : Int) / 2))).2 = true then scaledR (addS (rd (srt l) ((l.length : Int) / 2 - 1)) (rd (srt l) ((l.length : Int) / 2))).1 1 2
  else (0, false)
theorem addS_i (a b : Int) : I64 (addS a b).1 := by
  unfold addS
  split
  · rename_i h; exact h.2.2.i
  · show I64 0
    unfold I64; omega
theorem rmedian_ev {l : List Int} (hi : ∀ x ∈ l, I64 x) (hl : Few l) : Ev (fun k => oculusref16_Median.f k l) (midS l) := by
  have hl' := hl
  unfold Few at hl'
  refine Ev.congr (fun k => by rw [oculusref16_Median.f]) ?_
  rw [w64 (x := (l.length : Int) / 2) (by omega) (by omega), w64 (x := (l.length : Int) / 2 + 1) (by omega) (by omega)]
  by_cases h1 : (l.length : Int) % 2 = 1
  · refine Ev.pos h1 (Ev.bind (rsmall_ev hl _) ?_)
    rw [show midS l = _ from (if_neg (by omega)).trans (if_pos h1), show smallS l ((l.length : Int) / 2 + 1) = _ from if_pos (by omega), show (l.length : Int) / 2 + 1 - 1 = (l.length : Int) / 2 by omega]
    exact Ev.now _
  · refine Ev.neg h1 (Ev.bind (rsmall_ev hl _) (Ev.bind (rsmall_ev hl _) ?_))
    by_cases h0 : l.length = 0
    · rw [show midS l = _ from if_pos h0, show smallS l ((l.length : Int) / 2) = _ from if_neg (by omega), show smallS l ((l.length : Int) / 2 + 1) = _ from if_neg (by omega)]
      exact Ev.some_bind (radd_f (by show I64 0; unfold I64; omega) (by show I64 0; unfold I64; omega)) (Ev.neg (by decide) (Ev.now _))
    · rw [show smallS l ((l.length : Int) / 2) = _ from if_pos (by omega), show smallS l ((l.length : Int) / 2 + 1) = _ from if_pos (by omega), show (l.length : Int) / 2 + 1 - 1 = (l.length : Int) / 2 by omega]
      refine Ev.some_bind (radd_f (srt_i hi (by omega) (by omega)) (srt_i hi (by omega) (by omega))) ?_
      refine Ev.pos rfl (Ev.pos rfl ?_)
      rw [show midS l = _ from (if_neg h0).trans (if_neg h1)]
      by_cases h2 : (addS (rd (srt l) ((l.length : Int) / 2 - 1)) (rd (srt l) ((l.length : Int) / 2))).2 = true
      · rw [if_pos h2]
        have hI := addS_i (rd (srt l) ((l.length : Int) / 2 - 1)) (rd (srt l) ((l.length : Int) / 2))
        refine Ev.pos h2 (Ev.bind (rscaled_ev hI.1 hI.2 (by decide) (by decide) (by decide) (by decide)) (Ev.now _))
      · rw [if_neg h2]
        exact Ev.neg h2 (Ev.now _)
def scanS (l : List Int) : List Int → Int → Int → Int × Int
  | [], b, o => (b, o)
  | x :: t, b, o => if b < (l.count x : Int) then scanS l t (l.count x : Int) x else scanS l t b o
def modeS (l : List Int) : Int × Bool := ((scanS l l 1 0).2, decide (1 < (scanS l l 1 0).1))
theorem scan_ge (l : List Int) : ∀ (t : List Int) (b o : Int), b ≤ (scanS l t b o).1
  | [], b, o => Int.le_refl _
  | x :: t, b, o => by
    unfold scanS
    split
    · have := scan_ge l t (l.count x : Int) x; omega
    · exact scan_ge l t b o
theorem rmode_l0 {l : List Int} (hl : Few l) (d : Nat) : ∀ (i : Nat) (b o : Int) (ok : Bool), i + d = l.length → 1 ≤ b → ok = decide (1 < b) → (ok = false → o = 0) →
    Ev (fun k => oculusref16_Mode.l0 k l b (i : Int) o ok) ((scanS l (l.drop i) b o).2, decide (1 < (scanS l (l.drop i) b o).1)) := by
  have hl' := hl
  unfold Few at hl'
  induction d with
  | zero =>
    intro i b o ok h hb hok ho
    refine Ev.step (fun k => by rw [oculusref16_Mode.l0]) (Ev.neg (by omega) ?_)
    rw [List.drop_eq_nil_of_le (by omega), hok]
    exact Ev.now _
  | succ d ih =>
    intro i b o ok h hb hok ho
    refine Ev.step (fun k => by rw [oculusref16_Mode.l0]) (Ev.pos (by omega) (Ev.pos (by omega) (Ev.bind (times_ev hl) ?_)))
    rw [w64 (x := (i : Int) + 1) (by omega) (by omega), rd_drop (l := l) (i := i) (by omega)]
    unfold scanS
    by_cases hc : b < (l.count (rd l (i : Int)) : Int)
    · refine Ev.pos hc ?_
      rw [if_pos hc]
      exact ih (i + 1) _ _ true (by omega) (by omega) (decide_eq_true (by omega)).symm (fun h => by cases h)
    · refine Ev.neg hc ?_
      rw [if_neg hc]
      exact ih (i + 1) _ _ ok (by omega) hb hok ho
theorem rmode_ev {l : List Int} (hl : Few l) : Ev (fun k => oculusref16_Mode.f k l) (modeS l) :=
  Ev.congr (fun k => by rw [oculusref16_Mode.f]; rfl) (rmode_l0 hl l.length 0 1 0 false (Nat.zero_add _) (by decide) (by decide) (fun _ => rfl))
def rankS (x : Int) (l : List Int) : Int := if l.count x = 0 then 0 else 1 + (l.countP (fun y => decide (x < y)) : Int)
theorem rrank_l0 {x : Int} {l : List Int} (hl : Few l) (d : Nat) : ∀ i n : Nat, i + d = l.length → n ≤ i + 1 → Ev (fun k => oculusref16_Rank.l0 k x l (n : Int) (i : Int)) ((n + (l.drop i).countP (fun y => decide (x < y)) : Nat) : Int) := by
  unfold Few at hl
  induction d with
  | zero =>
    intro i n h hn
    refine Ev.step (fun k => by rw [oculusref16_Rank.l0]) (Ev.neg (by omega) ?_)
    rw [List.drop_eq_nil_of_le (by omega)]
    exact Ev.now _
  | succ d ih =>
    intro i n h hn
    refine Ev.step (fun k => by rw [oculusref16_Rank.l0]) (Ev.pos (by omega) (Ev.pos (by omega) ?_))
    rw [w64 (x := (i : Int) + 1) (by omega) (by omega), w64 (x := (n : Int) + 1) (by omega) (by omega), rd_drop (l := l) (i := i) (by omega), List.countP_cons]
    by_cases hx : rd l (i : Int) > x
    · refine Ev.pos hx ?_
      have := ih (i + 1) (n + 1) (by omega) (by omega)
      rw [if_pos (decide_eq_true hx)]
      rw [show n + 1 + (l.drop (i + 1)).countP (fun y => decide (x < y)) = n + ((l.drop (i + 1)).countP (fun y => decide (x < y)) + 1) by omega] at this
      exact this
    · refine Ev.neg hx ?_
      rw [if_neg (fun h => hx (of_decide_eq_true h)), Nat.add_zero]
      exact ih (i + 1) n (by omega) (by omega)
theorem rrank_ev {x : Int} {l : List Int} (hl : Few l) : Ev (fun k => oculusref16_Rank.f k x l) (rankS x l) := by
  refine Ev.congr (fun k => by rw [oculusref16_Rank.f]) (Ev.bind (times_ev hl) ?_)
  refine Ev.ite (fun h => ?_) (fun h => ?_)
  · rw [show rankS x l = _ from if_pos (by omega)]; exact Ev.now _
  · rw [show rankS x l = _ from if_neg (by omega)]
    have := rrank_l0 (x := x) hl l.length 0 1 (Nat.zero_add _) (by omega)
    rw [List.drop_zero] at this
    rw [show (1 : Int) + (l.countP (fun y => decide (x < y)) : Int) = ((1 + l.countP (fun y => decide (x < y)) : Nat) : Int) by omega]
    exact this
end Go.Proofs.Ytmagefemmhfkaaa.Q

namespace Go.Proofs.Ytmagefemmhfkaaa.Q
open Go Go.RowKit Go.Proofs.Ytmagefemmhfkaaa.PA Go.Proofs.YtmagefemmhfkaaaW.PrintWords Go.Proofs.YtmagefemmhfkaaaW.PrintLast Go.Proofs.YtmagefemmhfkaaaW.PrintMore
set_option linter.unusedVariables false
set_option linter.unusedSimpArgs false
theorem sorted_f {l : List Int} (hl : Few l) : order_Sorted.f l = some (srt l) := by
  unfold Few at hl
  unfold order_Sorted.f slices_Clone_int64_int64.f slices_Sort_int64_int64.f
  simp only [Option.bind_some, List.length_nil, Nat.zero_add, List.nil_append]
  rw [if_pos (show l.length < 17592186044416 by omega), Option.bind_some, if_pos (show l.length < 4611686018427387904 by omega)]
  rfl
theorem small_f {l : List Int} (hl : Few l) (a : Int) : order_Small.f l a = some (smallS l a) := by
  have hl' := hl
  unfold Few at hl'
  unfold order_Small.f smallS
  by_cases h1 : a < 1
  · rw [if_pos h1, if_neg (by omega)]
  · rw [if_neg h1]
    by_cases h2 : a > (l.length : Int)
    · rw [if_pos h2, if_neg (by omega)]
    · rw [if_neg h2, if_pos (by omega), sorted_f hl, Option.bind_some, srt_len, w64 (x := a - 1) (by omega) (by omega), if_pos (by omega), if_pos (by omega)]
theorem large_f {l : List Int} (hl : Few l) (a : Int) : order_Large.f l a = some (largeS l a) := by
  have hl' := hl
  unfold Few at hl'
  unfold order_Large.f largeS
  by_cases h1 : a < 1
  · rw [if_pos h1, if_neg (by omega)]
  · rw [if_neg h1]
    by_cases h2 : a > (l.length : Int)
    · rw [if_pos h2, if_neg (by omega)]
    · rw [if_neg h2, if_pos (by omega), w64 (x := (l.length : Int) + 1) (by omega) (by omega), w64 (x := (l.length : Int) + 1 - a) (by omega) (by omega), small_f hl, Option.bind_some]
      unfold smallS
      rw [if_pos (by omega), show (l.length : Int) + 1 - a - 1 = (l.length : Int) - a by omega]
theorem half_eq {s : Int} (h : May s) : scaledP s 1 2 = scaledR s 1 2 := by
  refine scaled_eq ?_
  unfold May at h
  rintro ⟨h1, _⟩
  have : ((s.natAbs : Int) * (1 : Int).natAbs) = (s.natAbs : Int) := by rw [show ((1 : Int).natAbs : Int) = 1 by decide, Int.mul_one]
  rw [this, show ((2 : Int).natAbs : Int) = 2 by decide] at h1
  omega
theorem addS_may (a b : Int) : May (addS a b).1 := by
  unfold addS
  split
  · rename_i h; exact h.2.2
  · decide
theorem median_ev {l : List Int} (hi : ∀ x ∈ l, I64 x) (hl : Few l) : Ev (fun k => order_Median.f k l) (midS l) := by
  have hl' := hl
  unfold Few at hl'
  refine Ev.congr (fun k => by rw [order_Median.f]) (Ev.some_bind (sorted_f hl) ?_)
  rw [srt_len]
  by_cases h0 : l.length = 0
  · refine Ev.pos (by omega) ?_
    rw [show midS l = _ from if_pos h0]
    exact Ev.now _
  · refine Ev.neg (by omega) ?_
    rw [w64 (x := (l.length : Int) / 2) (by omega) (by omega), w64 (x := (l.length : Int) / 2 - 1) (by omega) (by omega)]
    by_cases h1 : (l.length : Int) % 2 = 1
    · refine Ev.pos h1 (Ev.pos (by omega) (Ev.pos (by omega) ?_))
      rw [show midS l = _ from (if_neg h0).trans (if_pos h1)]
      exact Ev.now _
    · refine Ev.neg h1 (Ev.pos (by omega) (Ev.pos (by omega) (Ev.pos (by omega) (Ev.pos (by omega) ?_))))
      refine Ev.some_bind (add_f (srt_i hi (by omega) (by omega)) (srt_i hi (by omega) (by omega))) ?_
      rw [show midS l = _ from (if_neg h0).trans (if_neg h1)]
      have hI := addS_i (rd (srt l) ((l.length : Int) / 2 - 1)) (rd (srt l) ((l.length : Int) / 2))
      refine Ev.ite (fun h2 => ?_) (fun h2 => ?_)
      · rw [if_pos h2, ← half_eq (addS_may ..)]
        exact Ev.bind (scaled_ev hI.1 hI.2 (by decide) (by decide) (by decide) (by decide)) (Ev.now _)
      · rw [if_neg h2]
        exact Ev.now _
theorem scan_eq (l : List Int) : ∀ (t : List Int) (b o : Int), YtmagefemmhfkaaaW.XMode.scan l t b o = scanS l t b o
  | [], b, o => rfl
  | x :: t, b, o => by
    unfold scanS
    rw [show YtmagefemmhfkaaaW.XMode.scan l (x :: t) b o = (if b < (l.count x : Int) then YtmagefemmhfkaaaW.XMode.scan l t (l.count x : Int) x else YtmagefemmhfkaaaW.XMode.scan l t b o) from rfl, scan_eq l t, scan_eq l t]
theorem mode_f {l : List Int} (hw : ∀ x ∈ l, (Lit.int .i64 x).wf = true) : order_Mode.f l = some (modeS l) := by
  unfold order_Mode.f YtmagefemmhfkaaaW.XMode.mode
  rw [if_pos (List.all_eq_true.2 hw), scan_eq]
  rfl
theorem index_l0 {x : Int} {l : List Int} (hl : Few l) (d : Nat) : ∀ i : Nat, i + d = l.length → ∃ t : Int, (0 ≤ t ↔ x ∈ l.drop i) ∧ Ev (fun k => slices_Index_int64_int64.l0 k l x (l.length : Int) (i : Int)) t := by
  unfold Few at hl
  induction d with
  | zero =>
    intro i h
    refine ⟨-1, ?_, Ev.step (fun k => by rw [slices_Index_int64_int64.l0]) (Ev.neg (by omega) (Ev.now _))⟩
    rw [List.drop_eq_nil_of_le (by omega)]
    simp
  | succ d ih =>
    intro i h
    rw [rd_drop (l := l) (i := i) (by omega)]
    by_cases hx : x = rd l (i : Int)
    · exact ⟨(i : Int), by simp [hx], Ev.step (fun k => by rw [slices_Index_int64_int64.l0]) (Ev.pos (by omega) (Ev.pos (by omega) (Ev.pos (by omega) (Ev.pos hx (Ev.now _)))))⟩
    · obtain ⟨t, ht, hev⟩ := ih (i + 1) (by omega)
      refine ⟨t, by rw [ht]; simp [hx], Ev.step (fun k => by rw [slices_Index_int64_int64.l0]) (Ev.pos (by omega) (Ev.pos (by omega) (Ev.pos (by omega) (Ev.neg hx ?_))))⟩
      rw [w64 (x := (i : Int) + 1) (by omega) (by omega)]
      exact hev
theorem contains_ev {x : Int} {l : List Int} (hl : Few l) : Ev (fun k => slices_Contains_int64_int64.f k l x) (decide (0 < l.count x)) := by
  obtain ⟨t, ht, hev⟩ := index_l0 (x := x) hl l.length 0 (Nat.zero_add _)
  rw [List.drop_zero] at ht
  refine Ev.congr (fun k => by rw [slices_Contains_int64_int64.f, slices_Index_int64_int64.f]; rfl) (Ev.bind hev ?_)
  have e : decide (t ≥ 0) = decide (0 < l.count x) := by
    by_cases h : x ∈ l
    · rw [decide_eq_true (ht.2 h), decide_eq_true (List.count_pos_iff.2 h)]
    · rw [decide_eq_false (fun hh => h (ht.1 hh)), decide_eq_false (fun hh => h (List.count_pos_iff.1 hh))]
  rw [e]
  exact Ev.now _
theorem rank_l0 {x : Int} {l : List Int} (hl : Few l) (d : Nat) : ∀ i n : Nat, i + d = l.length → n ≤ i + 1 → Ev (fun k => order_Rank.l0 k x (n : Int) l (l.length : Int) (i : Int)) (((n + (l.drop i).countP (fun y => decide (x < y)) : Nat) : Int), true) := by
  unfold Few at hl
  induction d with
  | zero =>
    intro i n h hn
    refine Ev.step (fun k => by rw [order_Rank.l0]) (Ev.neg (by omega) ?_)
    rw [List.drop_eq_nil_of_le (by omega)]
    exact Ev.now _
  | succ d ih =>
    intro i n h hn
    refine Ev.step (fun k => by rw [order_Rank.l0]) (Ev.pos (by omega) (Ev.pos (by omega) (Ev.pos (by omega) ?_)))
    rw [w64 (x := (i : Int) + 1) (by omega) (by omega), w64 (x := (n : Int) + 1) (by omega) (by omega), rd_drop (l := l) (i := i) (by omega), List.countP_cons]
    by_cases hx : rd l (i : Int) > x
    · refine Ev.pos hx ?_
      have := ih (i + 1) (n + 1) (by omega) (by omega)
      rw [if_pos (decide_eq_true hx)]
      rw [show n + 1 + (l.drop (i + 1)).countP (fun y => decide (x < y)) = n + ((l.drop (i + 1)).countP (fun y => decide (x < y)) + 1) by omega] at this
      exact this
    · refine Ev.neg hx ?_
      rw [if_neg (fun h => hx (of_decide_eq_true h)), Nat.add_zero]
      exact ih (i + 1) n (by omega) (by omega)
theorem rank_ev {x : Int} {l : List Int} (hl : Few l) : Ev (fun k => order_Rank.f k x l) (rankS x l, decide (0 < rankS x l)) := by
  refine Ev.congr (fun k => by rw [order_Rank.f]) (Ev.bind (contains_ev hl) ?_)
  by_cases h : l.count x = 0
  · refine Ev.neg (by rw [decide_eq_false (by omega)]; decide) ?_
    rw [show rankS x l = _ from if_pos h]
    exact Ev.now _
  · refine Ev.pos (decide_eq_true (by omega)) ?_
    rw [show rankS x l = _ from if_neg h]
    have := rank_l0 (x := x) hl l.length 0 1 (Nat.zero_add _) (by omega)
    rw [List.drop_zero] at this
    rw [decide_eq_true (show (0 : Int) < 1 + (l.countP (fun y => decide (x < y)) : Int) by omega), show (1 : Int) + (l.countP (fun y => decide (x < y)) : Int) = ((1 + l.countP (fun y => decide (x < y)) : Nat) : Int) by omega]
    exact this
theorem four_srt : srt [30, 10, 21, 10] = [10, 10, 21, 30] := (srt_unique (by decide) (by decide)).symm
theorem alive16 : Ev (fun k => oculuslaw16_alive.f k) true := by
  have hw : ∀ x ∈ ([30, 10, 21, 10] : List Int), (Lit.int .i64 x).wf = true := by decide
  have hl : Few [30, 10, 21, 10] := by unfold Few; decide
  have hi : ∀ x ∈ ([30, 10, 21, 10] : List Int), I64 x := fun x hx => i64_of_wf (hw x hx)
  have e1 : midS [30, 10, 21, 10] = (16, true) := by unfold midS; rw [four_srt]; decide
  have e2 : modeS [30, 10, 21, 10] = (10, true) := by decide
  have e3 : rankS 21 [30, 10, 21, 10] = 2 := by decide
  have e4 : largeS [30, 10, 21, 10] 1 = (30, true) := by unfold largeS; rw [four_srt]; decide
  refine Ev.congr (fun k => by rw [oculuslaw16_alive.f]) ?_
  refine Ev.some_bind (a := [30, 10, 21, 10]) rfl ?_
  refine Ev.bind (median_ev hi hl) ?_
  refine Ev.bind (rank_ev hl) ?_
  refine Ev.some_bind (mode_f hw) ?_
  refine Ev.some_bind (large_f hl _) ?_
  rw [e1, e2, e3, e4]
  exact Ev.pos rfl (Ev.pos (by decide) (Ev.pos rfl (Ev.pos rfl (Ev.pos rfl (Ev.pos rfl (Ev.pos rfl (Ev.now _)))))))
end Go.Proofs.Ytmagefemmhfkaaa.Q

namespace Go.Proofs.Ytmagefemmhfkaaa.Pure
open Go Go.RowKit Go.Proofs.Ytmagefemmhfkaaa.PA Go.Proofs.YtmagefemmhfkaaaW.PrintWords Go.Proofs.YtmagefemmhfkaaaW.PrintLast Go.Proofs.YtmagefemmhfkaaaW.PrintMore Go.Proofs.Ytmagefemmhfkaaa.Q
set_option linter.unusedVariables false
set_option linter.unusedSimpArgs false
theorem srt_same {l m : List Int} (h : m.Perm l) : srt m = srt l := srt_unique (srt_sorted m) ((srt_perm m).trans h)
theorem mid_same {l m : List Int} (h : m.Perm l) : midS m = midS l := by unfold midS; rw [srt_same h, h.length_eq]
theorem small_same {l m : List Int} (h : m.Perm l) (a : Int) : smallS m a = smallS l a := by unfold smallS; rw [srt_same h, h.length_eq]
theorem rank_same {l m : List Int} (h : m.Perm l) (x : Int) : rankS x m = rankS x l := by unfold rankS; rw [h.count_eq, h.countP_eq]
theorem scan_of (l : List Int) : ∀ (t : List Int) (b o : Int), (∀ x ∈ t, (l.count x : Int) ≤ (scanS l t b o).1) ∧
    ((scanS l t b o = (b, o)) ∨ (b < (scanS l t b o).1 ∧ (scanS l t b o).2 ∈ t ∧ (l.count (scanS l t b o).2 : Int) = (scanS l t b o).1))
  | [], b, o => ⟨fun x hx => by simp at hx, .inl rfl⟩
  | x :: t, b, o => by
    unfold scanS
    by_cases h : b < (l.count x : Int)
    · rw [if_pos h]
      obtain ⟨h1, h2⟩ := scan_of l t (l.count x : Int) x
      have h3 := scan_ge l t (l.count x : Int) x
      refine ⟨fun y hy => ?_, .inr ?_⟩
      · rcases List.mem_cons.1 hy with rfl | hy
        · exact h3
        · exact h1 y hy
      · rcases h2 with h2 | h2
        · rw [h2]; exact ⟨h, List.mem_cons_self, rfl⟩
        · exact ⟨by omega, List.mem_cons_of_mem _ h2.2.1, h2.2.2⟩
    · rw [if_neg h]
      obtain ⟨h1, h2⟩ := scan_of l t b o
      have h3 := scan_ge l t b o
      refine ⟨fun y hy => ?_, ?_⟩
      · rcases List.mem_cons.1 hy with rfl | hy
        · omega
        · exact h1 y hy
      · rcases h2 with h2 | h2
        · exact .inl h2
        · exact .inr ⟨h2.1, List.mem_cons_of_mem _ h2.2.1, h2.2.2⟩
theorem scan_le {l m : List Int} (h : m.Perm l) : (scanS m m 1 0).1 ≤ (scanS l l 1 0).1 := by
  obtain ⟨_, h2⟩ := scan_of m m 1 0
  obtain ⟨h3, _⟩ := scan_of l l 1 0
  have h4 := scan_ge l l 1 0
  rcases h2 with h2 | h2
  · rw [h2]; exact h4
  · rw [← h2.2.2, h.count_eq]
    exact h3 _ (h.mem_iff.1 h2.2.1)
theorem mode_same {l m : List Int} (h : m.Perm l) : (modeS m).2 = (modeS l).2 ∧ l.count (modeS m).1 = l.count (modeS l).1 := by
  have e : (scanS m m 1 0).1 = (scanS l l 1 0).1 := Int.le_antisymm (scan_le h) (scan_le h.symm)
  refine ⟨by unfold modeS; rw [e], ?_⟩
  show l.count (scanS m m 1 0).2 = l.count (scanS l l 1 0).2
  obtain ⟨_, h1⟩ := scan_of m m 1 0
  obtain ⟨_, h2⟩ := scan_of l l 1 0
  rcases h1 with h1 | h1 <;> rcases h2 with h2 | h2
  · rw [h1, h2]
  · rw [h1] at e; have := h2.1; rw [← e] at this; exact absurd this (by decide)
  · rw [h2] at e; have := h1.1; rw [e] at this; exact absurd this (by decide)
  · have h3 := h1.2.2
    rw [h.count_eq, e, ← h2.2.2] at h3
    exact Int.ofNat.inj h3
theorem sorted_split {x : Int} : ∀ {s : List Int}, s.Pairwise (· ≤ ·) → s = s.filter (fun y => decide (y ≤ x)) ++ s.filter (fun y => decide (x < y))
  | [], _ => rfl
  | a :: t, h => by
    rw [List.pairwise_cons] at h
    by_cases ha : a ≤ x
    · have e1 : (a :: t).filter (fun y => decide (y ≤ x)) = a :: t.filter (fun y => decide (y ≤ x)) := List.filter_cons_of_pos (p := fun y => decide (y ≤ x)) (decide_eq_true ha)
      have e2 : (a :: t).filter (fun y => decide (x < y)) = t.filter (fun y => decide (x < y)) := List.filter_cons_of_neg (p := fun y => decide (x < y)) (by simp; omega)
      rw [e1, e2, List.cons_append, ← sorted_split h.2]
    · have e1 : (a :: t).filter (fun y => decide (y ≤ x)) = [] := by
        rw [List.filter_eq_nil_iff]
        intro y hy
        rcases List.mem_cons.1 hy with rfl | hy
        · simpa using ha
        · have := h.1 y hy; simp; omega
      have e2 : (a :: t).filter (fun y => decide (x < y)) = a :: t := by
        rw [List.filter_eq_self]
        intro y hy
        rcases List.mem_cons.1 hy with rfl | hy
        · simp; omega
        · have := h.1 y hy; simp; omega
      rw [e1, e2, List.nil_append]
theorem at_rank {l : List Int} {x : Int} (hx : x ∈ l) : (l.countP (fun y => decide (x < y))) < l.length ∧ rd (srt l) ((l.length : Int) - (1 + (l.countP (fun y => decide (x < y)) : Int))) = x := by
  have hs := srt_sorted l
  have e := sorted_split (x := x) hs
  have hg : ((srt l).filter (fun y => decide (x < y))).length = l.countP (fun y => decide (x < y)) := by
    rw [← List.countP_eq_length_filter, (srt_perm l).countP_eq]
  have hlen := congrArg List.length e
  rw [srt_len, List.length_append, hg] at hlen
  have hxa : x ∈ (srt l).filter (fun y => decide (y ≤ x)) := List.mem_filter.2 ⟨(srt_perm l).mem_iff.2 hx, by simp⟩
  have hA := hs.sublist (List.filter_sublist (p := fun y => decide (y ≤ x)))
  have hle : ∀ y ∈ (srt l).filter (fun y => decide (y ≤ x)), y ≤ x := fun y hy => by simpa using (List.mem_filter.1 hy).2
  generalize hAe : (srt l).filter (fun y => decide (y ≤ x)) = A at *
  obtain ⟨i, hi, hxi⟩ := List.getElem_of_mem hxa
  refine ⟨by omega, ?_⟩
  have hlt : A.length - 1 < (srt l).length := by rw [srt_len]; omega
  rw [show (l.length : Int) - (1 + (l.countP (fun y => decide (x < y)) : Int)) = ((A.length - 1 : Nat) : Int) by omega, rd_get hlt]
  have e3 : (srt l)[A.length - 1] = A[A.length - 1] := by
    have h9 : (srt l)[A.length - 1]? = A[A.length - 1]? := by rw [e, List.getElem?_append_left (by omega)]
    rw [List.getElem?_eq_getElem hlt, List.getElem?_eq_getElem (by omega)] at h9
    exact Option.some.inj h9
  rw [e3]
  have h1 : A[A.length - 1] ≤ x := hle _ (List.getElem_mem _)
  have h2 : x ≤ A[A.length - 1] := by
    rcases Nat.lt_or_ge i (A.length - 1) with h | h
    · have := List.pairwise_iff_getElem.1 hA i (A.length - 1) hi (by omega) h
      omega
    · have : i = A.length - 1 := by omega
      subst this
      omega
  omega
theorem turns_l1 {l m : List Int} (a : Int) (h : m.Perm l) (hl : Few l) (d : Nat) : ∀ i : Nat, i + d = l.length → Ev (fun k => oculuslaw16_OrderTurns.l1 k l a m l (l.length : Int) (i : Int)) true := by
  have hl' := hl
  unfold Few at hl'
  have hm : Few m := by unfold Few; rw [h.length_eq]; exact hl'
  have r : ∀ b : Bool, (b == b) = true := by decide
  induction d with
  | zero =>
    intro i hh
    refine Ev.step (fun k => by rw [oculuslaw16_OrderTurns.l1]) (Ev.neg (by omega) ?_)
    refine Ev.some_bind (small_f hl a) (Ev.some_bind (small_f hm a) ?_)
    rw [small_same h]
    exact Ev.pos rfl (Ev.pos (r _) (Ev.bind alive16 (Ev.now _)))
  | succ d ih =>
    intro i hh
    refine Ev.step (fun k => by rw [oculuslaw16_OrderTurns.l1]) (Ev.pos (by omega) (Ev.pos (by omega) (Ev.pos (by omega) ?_)))
    rw [w64 (x := (i : Int) + 1) (by omega) (by omega)]
    have next := ih (i + 1) (by omega)
    rw [show ((i + 1 : Nat) : Int) = (i : Int) + 1 by omega] at next
    have hx : rd l (i : Int) ∈ l := rd_mem (by omega) (by omega)
    have hr := at_rank hx
    have e1 : rankS (rd l (i : Int)) m = 1 + (l.countP (fun y => decide (rd l (i : Int) < y)) : Int) := by
      rw [rank_same h]
      exact if_neg (by have := List.count_pos_iff.2 hx; omega)
    refine Ev.bind (rank_ev hm) (Ev.some_bind (large_f hl _) ?_)
    rw [e1, show largeS l _ = _ from if_pos (by omega), hr.2]
    exact Ev.pos (decide_eq_true (by omega)) (Ev.pos rfl (Ev.pos rfl next))
theorem turns_l0 {l : List Int} (a : Int) (hw : ∀ x ∈ l, (Lit.int .i64 x).wf = true) (hl : Few l) (d : Nat) : ∀ i : Nat, i + d = l.length → Ev (fun k => oculuslaw16_OrderTurns.l0 k l a (l.reverse.take i) (l.length : Int) (i : Int)) true := by
  have hl' := hl
  unfold Few at hl'
  have hi : ∀ x ∈ l, I64 x := fun x hx => i64_of_wf (hw x hx)
  have r : ∀ b : Bool, (b == b) = true := by decide
  induction d with
  | zero =>
    intro i hh
    have h : l.reverse.Perm l := List.reverse_perm l
    have hm : Few l.reverse := by unfold Few; rw [h.length_eq]; exact hl'
    have hi2 : ∀ x ∈ l.reverse, I64 x := fun x hx => hi x (h.mem_iff.1 hx)
    have hw2 : ∀ x ∈ l.reverse, (Lit.int .i64 x).wf = true := fun x hx => hw x (h.mem_iff.1 hx)
    refine Ev.step (fun k => by rw [oculuslaw16_OrderTurns.l0]) (Ev.neg (by omega) ?_)
    rw [List.take_of_length_le (by rw [List.length_reverse]; omega)]
    refine Ev.bind (median_ev hi hl) ?_
    refine Ev.bind (median_ev hi2 hm) ?_
    refine Ev.some_bind (mode_f hw) ?_
    refine Ev.some_bind (mode_f hw2) ?_
    have hms := mode_same h
    rw [mid_same h, hms.1]
    refine Ev.pos rfl (Ev.neg (by simp) (Ev.neg (by simp) ?_))
    refine Ev.bind (times_ev hl) (Ev.bind (times_ev hl) (Ev.pos (by rw [hms.2]) ?_))
    exact turns_l1 a h hl l.length 0 (Nat.zero_add _)
  | succ d ih =>
    intro i hh
    have hi2 : l.length - 1 - i < l.length := by omega
    have hlr : i < l.reverse.length := by rw [List.length_reverse]; omega
    refine Ev.step (fun k => by rw [oculuslaw16_OrderTurns.l0]) (Ev.pos (by omega) ?_)
    rw [w64 (x := (l.length : Int) - 1) (by omega) (by omega), w64 (x := (l.length : Int) - 1 - (i : Int)) (by omega) (by omega), w64 (x := (i : Int) + 1) (by omega) (by omega)]
    refine Ev.pos (by omega) (Ev.pos (by omega) (Ev.pos (by rw [List.length_take, List.length_reverse]; omega) ?_))
    have next := ih (i + 1) (by omega)
    rw [List.take_add_one, List.getElem?_eq_getElem hlr, List.getElem_reverse] at next
    rw [show (l.length : Int) - 1 - (i : Int) = ((l.length - 1 - i : Nat) : Int) by omega, rd_get hi2]
    exact next
theorem OrderTurns : oculuslaw16_OrderTurns.Pure := by
  intro l a hmax hlen hw _
  have hi : ∀ x ∈ l, I64 x := fun x hx => i64_of_wf (hw x hx)
  have hl : Few l := by unfold Few; omega
  refine Ev.rounds (g := fun k => oculuslaw16_OrderTurns.f k l a) (r := true) ?_
  refine Ev.congr (fun k => by rw [oculuslaw16_OrderTurns.f]) (Ev.bind (right_ev hi hl) ?_)
  exact Ev.ite (fun h => turns_l0 a hw hl l.length 0 (Nat.zero_add _)) (fun h => Ev.bind alive16 (Ev.now _))
end Go.Proofs.Ytmagefemmhfkaaa.Pure

namespace Go.Proofs.Ytmagefemmhfkaaa.orderTurns
open Go.ChangeShapes Go.WideShapes Go.ChangeAt Go.RowKit
open Go.ChangeMaps (open_string shut_string)
set_option linter.unusedVariables false
theorem own : ownKnob Try.prog.godebug = none := by kernel_rfl
theorem laidOut : laidOutB Try.prog = true := by kernel_rfl
def IsRow (k : IntKind) (w : World) (a : Option Addr) (len cap : Nat) (zs : List Int) : Prop :=
  (a = none ∧ len = 0 ∧ cap = 0 ∧ zs = []) ∨
  ∃ x, a = some x ∧ len ≤ cap ∧ cap ≤ maxLen ∧ zs.length = cap ∧ (∀ i, i < zs.length → w.cell? (x.add i) = some (.int k (zs.getD i 0))) ∧ ∀ n ∈ zs, (Lit.int k n).wf = true
set_option maxRecDepth 100000 in
theorem lifted (os : Os) (started : os.Started) (H : Type) (enc : TypeId × Value → H) :
    ReturnsInHanded {} Try.checked os 14 .any (Rows.orderTurnsSpec.pre6 enc Try.prog Try.f14 Rows.orderTurnsRow.domain false) (Rows.orderTurnsSpec.post enc Try.prog Try.f14 false true false false) := by
  refine returnsInHanded_of_change_sized (C := Try.checked) own started (by kernel_rfl) Try.func14
    (ChangeSpec.witness6 (enc := enc) (C := Try.checked) false ⟨#[], #[.slice none 0 0, .int .i64 0], []⟩ 8 (by kernel_rfl) (by kernel_rfl) (by kernel_rfl) (by kernel_rfl)) ?_
  intro W base args ds gs before hval0 hW hcnd hsz0 _
  have hsz : (DataW.weightsEach Try.prog (Try.f14.params.toList ++ Rows.orderTurnsSpec.plain.varTypes Try.prog) (ds ++ gs)).all (· ≤ reachBytes) = true := hsz0
  have hval : ∀ (j : Nat) t v, Try.f14.params[j]? = some t → args[j]? = some v → Value.okWide Try.prog W .any base t v := hval0
  have hW' := hW
  obtain ⟨p, q, hA0, hV, rfl, hfz, hnd⟩ := hW
  have hA : DataW.TrodAll enc Try.prog W 0 (fun _ => true) true Try.f14.params.toList args.toList ds p := hA0
  rw [Try.params14] at hA hval hsz
  obtain ⟨v0, vs0, d0, ds0, p0, q0, hargs, rfl, rfl, h0, r0⟩ := trodAll_cons hA
  obtain ⟨v1, vs1, d1, ds1, p1, q1, rfl, rfl, rfl, h1, r1⟩ := trodAll_cons r0
  obtain ⟨rfl, rfl, rfl⟩ := trodAll_nil r1
  obtain rfl : args = #[v0, v1] := by cases args; simp_all
  obtain ⟨rfl, rfl⟩ := trodVars_none hV
  obtain ⟨a0, len0, cap0, rfl⟩ := okWide_slice Try.underlying46 (hval 0 46 v0 rfl rfl)
  have k0 := h0
  have lt0 : ∀ x ∈ p0, x.block < W.heap.size := by obtain ⟨m, hm⟩ := k0; exact DataW.trod_lt m _ _ _ hm
  obtain ⟨z0, w0⟩ : ∃ zs, IsRow .i64 W a0 len0 cap0 zs := by
    obtain ⟨fuel, hf⟩ := h0
    rcases open_ints Try.underlying46 Try.underlying2 (by kernel_rfl) hf with ⟨hcs, _⟩ | ⟨x, l, c, zs, hcs, _, hl, hm, hz, _, hcell, hwz⟩
    · simp [Value.cells] at hcs
      obtain ⟨rfl, rfl, rfl⟩ := hcs
      exact ⟨[], .inl ⟨rfl, rfl, rfl, rfl⟩⟩
    · simp [Value.cells] at hcs
      obtain ⟨rfl, rfl, rfl⟩ := hcs
      exact ⟨zs, .inr ⟨_, rfl, hl, hm, by simpa using hz, hcell, hwz⟩⟩
  have y0 : len0 * 8 ≤ 140737488351232 := Go.Proofs.YtmagefemmhfkaaaW.PrintWords.sized_ints hsz (j := 0) (t := 46) rfl rfl Try.underlying46 Try.underlying2 (by kernel_rfl) (by kernel_rfl) h0
  obtain ⟨a1, rfl, rfl, rfl, w1⟩ := open_int Try.underlying3 (hval 1 3 v1 rfl rfl) h1
  clear hA0 hval0 hsz0 hsz
  refine (PA.oculuslaw16_OrderTurns.walk Pure.OrderTurns a0 len0 cap0 z0 a1 W w0 y0 w1).mono fun e W' ⟨he, bel⟩ => ?_
  subst he
  exact ⟨_, rfl, _, _, _, [], _, [], hW', trodAll_mk1 (shut_bool Try.underlying4 _), (trodAll_cons_mk (Below.trod laidOut (by kernel_rfl) (of_decide_eq_true (by kernel_rfl)) k0 bel lt0) (trodAll_cons_mk (shut_int Try.underlying3 w1) trodAll_mk0)), rfl, bel.frame _, fun h => by cases h⟩
theorem over : Rows.orderTurnsRow.holds Try.pinned (OpenSpec.ofChange Rows.orderTurnsSpec) :=
  OpenClaim.holds_of_wide 14 Try.f14 rfl rfl rfl rfl rfl rfl rfl ⟨rfl, rfl, rfl, rfl, rfl⟩ rfl rfl rfl rfl rfl (by kernel_rfl) Try.func14 (by kernel_rfl)
    (of_decide_eq_true (by kernel_rfl)) (by unfold Func.isWrapper; first | (rw [if_pos (by decide +kernel)]; kernel_rfl) | (rw [if_neg (by decide +kernel)]; exact ⟨rfl, rfl⟩))
    (fun os started H enc _ => lifted os started H enc)
theorem proved : Rows.OrderTurnsSaid := over
#print axioms proved
end Go.Proofs.Ytmagefemmhfkaaa.orderTurns
namespace Go.Proofs.Ytmagefemmhfkaaa
theorem orderTurns_holds : Rows.OrderTurnsSaid := orderTurns.proved
end Go.Proofs.Ytmagefemmhfkaaa
