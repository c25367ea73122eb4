/- Plain arithmetic of a long division by two digits of 2^32. -/
import Derived.Test.YtmagefemmhfkaaaQArith
namespace Go.Proofs.Ytmagefemmhfkaaa.Q
set_option linter.unusedVariables false
set_option linter.unusedSimpArgs false

/-- One digit: the guess q with its rest is not below the true digit; where the test fails it is the digit; where it holds it is greater. -/
theorem digit_stop {u d yn1 yn0 q rh : Int} (h1 : 0 < yn1 * 4294967296 + yn0) (hr : rh = u - q * yn1)
    (hc : q * yn0 ≤ 4294967296 * rh + d) : q ≤ (u * 4294967296 + d) / (yn1 * 4294967296 + yn0) := by
  refine Int.le_ediv_of_mul_le h1 ?_
  have e : q * (yn1 * 4294967296 + yn0) = (q * yn1) * 4294967296 + q * yn0 := by rw [Int.mul_add, ← Int.mul_assoc]
  rw [e]
  generalize q * yn1 = s at *
  generalize q * yn0 = t at *
  omega
theorem digit_more {u d yn1 yn0 q rh : Int} (hy1 : 0 < yn1) (hy0 : 0 ≤ yn0) (hd : d < 4294967296) (hu : u < yn1 * 4294967296 + yn0) (hr : rh = u - q * yn1)
    (hc : 4294967296 ≤ q ∨ 4294967296 * rh + d < q * yn0) : (u * 4294967296 + d) / (yn1 * 4294967296 + yn0) ≤ q - 1 := by
  have h1 : 0 < yn1 * 4294967296 + yn0 := by omega
  have key : (u * 4294967296 + d) / (yn1 * 4294967296 + yn0) < q := by
    refine Int.ediv_lt_of_lt_mul h1 ?_
    rcases hc with hc | hc
    · have := Int.mul_le_mul_of_nonneg_right hc (Int.le_of_lt h1)
      generalize q * (yn1 * 4294967296 + yn0) = z at *
      omega
    · have e : q * (yn1 * 4294967296 + yn0) = (q * yn1) * 4294967296 + q * yn0 := by rw [Int.mul_add, ← Int.mul_assoc]
      rw [e]
      generalize q * yn1 = s at *
      generalize q * yn0 = t at *
      omega
  omega
theorem digit_break {u d yn1 yn0 q rh : Int} (hy1 : 0 < yn1) (hy0 : 0 ≤ yn0) (hy0' : yn0 < 4294967296) (hd : 0 ≤ d) (hq0 : 1 ≤ q) (hq : q ≤ 4294967297) (hr : rh = u - q * yn1)
    (hb : 4294967296 ≤ rh + yn1) : q - 1 ≤ (u * 4294967296 + d) / (yn1 * 4294967296 + yn0) := by
  have h1 : 0 < yn1 * 4294967296 + yn0 := by omega
  refine Int.le_ediv_of_mul_le h1 ?_
  have e : (q - 1) * (yn1 * 4294967296 + yn0) = (q * yn1 - yn1) * 4294967296 + (q - 1) * yn0 := by
    rw [Int.mul_add, ← Int.mul_assoc, Int.sub_mul, Int.one_mul]
  have hm : (q - 1) * yn0 ≤ 4294967296 * 4294967295 := Int.mul_le_mul (by omega) (by omega) hy0 (by decide)
  rw [e]
  generalize q * yn1 = s at *
  generalize (q - 1) * yn0 = t at *
  omega
/-- The first guess. -/
theorem digit_guess {u d yn1 yn0 : Int} (hy1 : 2147483648 ≤ yn1) (hy0 : 0 ≤ yn0) (hy0' : yn0 < 4294967296) (hu0 : 0 ≤ u) (hd0 : 0 ≤ d) (hd : d < 4294967296) (hu : u < yn1 * 4294967296 + yn0) :
    (u * 4294967296 + d) / (yn1 * 4294967296 + yn0) ≤ u / yn1 ∧ 0 ≤ u / yn1 ∧ u / yn1 ≤ 4294967297 ∧ 0 ≤ u - u / yn1 * yn1 ∧ u - u / yn1 * yn1 < yn1 := by
  have h1 : 0 < yn1 * 4294967296 + yn0 := by omega
  have hdm := Int.mul_ediv_add_emod u yn1
  have hm0 := Int.emod_nonneg u (b := yn1) (by omega)
  have hm1 := Int.emod_lt_of_pos u (b := yn1) (by omega)
  have hc : yn1 * (u / yn1) = u / yn1 * yn1 := Int.mul_comm ..
  refine ⟨?_, Int.ediv_nonneg hu0 (by omega), ?_, by omega, by omega⟩
  · refine Int.le_ediv_of_mul_le (by omega) ?_
    have h2 := Int.ediv_mul_le (u * 4294967296 + d) (b := yn1 * 4294967296 + yn0) (by omega)
    have hq0 : 0 ≤ (u * 4294967296 + d) / (yn1 * 4294967296 + yn0) := Int.ediv_nonneg (by omega) (by omega)
    generalize (u * 4294967296 + d) / (yn1 * 4294967296 + yn0) = Q at *
    have e : Q * (yn1 * 4294967296 + yn0) = (Q * yn1) * 4294967296 + Q * yn0 := by rw [Int.mul_add, ← Int.mul_assoc]
    have := Int.mul_nonneg hq0 hy0
    rw [e] at h2
    generalize Q * yn1 = s at *
    generalize Q * yn0 = t at *
    omega
  · have : u / yn1 < 4294967298 := by
      refine Int.ediv_lt_of_lt_mul (by omega) ?_
      omega
    omega
/-- Two digits together. -/
theorem two_digits {N U D1 D0 Y Q1 R1 Q0 R0 : Int} (hY : 0 < Y) (hN : N = (U * 4294967296 + D1) * 4294967296 + D0)
    (h1 : U * 4294967296 + D1 = Y * Q1 + R1) (h0 : R1 * 4294967296 + D0 = Y * Q0 + R0) (hr0 : 0 ≤ R0) (hr : R0 < Y) :
    N / Y = Q1 * 4294967296 + Q0 ∧ N % Y = R0 := by
  have e : N = R0 + Y * (Q1 * 4294967296 + Q0) := by
    have : Y * (Q1 * 4294967296 + Q0) = (Y * Q1) * 4294967296 + Y * Q0 := by rw [Int.mul_add, Int.mul_assoc]
    rw [this, hN]
    generalize Y * Q1 = s at *
    generalize Y * Q0 = t at *
    omega
  exact (Int.ediv_emod_unique hY).2 ⟨by rw [e], hr0, hr⟩
end Go.Proofs.Ytmagefemmhfkaaa.Q
