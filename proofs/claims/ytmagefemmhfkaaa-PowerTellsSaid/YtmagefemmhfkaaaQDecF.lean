/- What the printed functions of bits, dec and oculusref08 answer. -/
import Derived.Test.YtmagefemmhfkaaaQKnuth
import Derived.Test.YtmagefemmhfkaaaPBx3
import Derived.Test.YtmagefemmhfkaaaPBx15
import Derived.Test.YtmagefemmhfkaaaPBx3
import Derived.Test.YtmagefemmhfkaaaPBx12
namespace Go.Proofs.Ytmagefemmhfkaaa.Q
open Go Go.RowKit Go.Proofs.Ytmagefemmhfkaaa.PA Go.Proofs.YtmagefemmhfkaaaW.PrintWords Go.Proofs.YtmagefemmhfkaaaW.PrintLast Go.Proofs.YtmagefemmhfkaaaW.PrintMore
set_option linter.unusedVariables false
set_option linter.unusedSimpArgs false

theorem mul64_math {a b : Int} (ha0 : 0 ≤ a) (ha : a < 18446744073709551616) (hb0 : 0 ≤ b) (hb : b < 18446744073709551616) :
    ∃ p11 p10 p01 p00 : Int, p11 = (a / 4294967296) * (b / 4294967296) ∧ p10 = (a / 4294967296) * (b % 4294967296) ∧ p01 = (a % 4294967296) * (b / 4294967296) ∧ p00 = (a % 4294967296) * (b % 4294967296)
      ∧ (0 ≤ p11 ∧ p11 ≤ 18446744065119617025) ∧ (0 ≤ p10 ∧ p10 ≤ 18446744065119617025) ∧ (0 ≤ p01 ∧ p01 ≤ 18446744065119617025) ∧ (0 ≤ p00 ∧ p00 ≤ 18446744065119617025)
      ∧ a * b = p11 * 18446744073709551616 + (p10 + p01) * 4294967296 + p00 := by
  refine ⟨_, _, _, _, rfl, rfl, rfl, rfl, prodB (by omega) (by omega) (by omega) (by omega), prodB (by omega) (by omega) (by omega) (by omega), prodB (by omega) (by omega) (by omega) (by omega), prodB (by omega) (by omega) (by omega) (by omega), ?_⟩
  have ea : a = a / 4294967296 * 4294967296 + a % 4294967296 := by omega
  have eb : b = b / 4294967296 * 4294967296 + b % 4294967296 := by omega
  generalize a / 4294967296 = x1 at *
  generalize a % 4294967296 = x0 at *
  generalize b / 4294967296 = y1 at *
  generalize b % 4294967296 = y0 at *
  subst ea eb
  grind

theorem mul64_f (a b : Int) (ha0 : 0 ≤ a) (ha : a < 18446744073709551616) (hb0 : 0 ≤ b) (hb : b < 18446744073709551616) :
    bits_Mul64.f a b = some (a * b / 18446744073709551616, a * b % 18446744073709551616) := by
  obtain ⟨p11, p10, p01, p00, e11, e10, e01, e00, h11, h10, h01, h00, e⟩ := mul64_math ha0 ha hb0 hb
  unfold bits_Mul64.f
  rw [and32 ha0 ha, and32 hb0 hb, ← e11, ← e10, ← e01, ← e00, u64i (x := p11) (by omega) (by omega), u64i (x := p10) (by omega) (by omega), u64i (x := p01) (by omega) (by omega), u64i (x := p00) (by omega) (by omega)]
  rw [u64i (x := p10 + p00 / 4294967296) (by omega) (by omega), and32 (by omega) (by omega), u64w (a * b)]
  rw [u64i (x := (p10 + p00 / 4294967296) % 4294967296 + p01) (by omega) (by omega), u64w, u64w]
  congr 2
  omega

theorem times_f (a b : Int) (ha0 : 0 ≤ a) (ha : a < 18446744073709551616) (hb0 : 0 ≤ b) (hb : b < 18446744073709551616) :
    oculusref08_Times.f a b = some (a * b / 18446744073709551616, a * b % 18446744073709551616) := by
  obtain ⟨p11, p10, p01, p00, e11, e10, e01, e00, h11, h10, h01, h00, e⟩ := mul64_math ha0 ha hb0 hb
  unfold oculusref08_Times.f
  simp only [Int.tdiv_eq_ediv_of_nonneg ha0, Int.tdiv_eq_ediv_of_nonneg hb0, Int.tmod_eq_emod_of_nonneg ha0, Int.tmod_eq_emod_of_nonneg hb0]
  rw [u64i (x := a / 4294967296) (by omega) (by omega), u64i (x := b / 4294967296) (by omega) (by omega)]
  rw [← e11, ← e10, ← e01, ← e00, u64i (x := p11) (by omega) (by omega), u64i (x := p10) (by omega) (by omega), u64i (x := p01) (by omega) (by omega), u64i (x := p00) (by omega) (by omega)]
  rw [Int.tdiv_eq_ediv_of_nonneg h00.1, Int.tmod_eq_emod_of_nonneg h00.1, u64i (x := p00 / 4294967296) (by omega) (by omega)]
  rw [u64i (x := p10 + p00 / 4294967296) (by omega) (by omega), Int.tdiv_eq_ediv_of_nonneg (a := p10 + p00 / 4294967296) (by omega), Int.tmod_eq_emod_of_nonneg (a := p10 + p00 / 4294967296) (by omega)]
  rw [u64i (x := (p10 + p00 / 4294967296) / 4294967296) (by omega) (by omega)]
  rw [u64i (x := p01 + (p10 + p00 / 4294967296) % 4294967296) (by omega) (by omega), Int.tdiv_eq_ediv_of_nonneg (a := p01 + (p10 + p00 / 4294967296) % 4294967296) (by omega), Int.tmod_eq_emod_of_nonneg (a := p01 + (p10 + p00 / 4294967296) % 4294967296) (by omega)]
  simp only [u64w]
  congr 2
  · omega
  · omega

/-- How far from 0. -/
theorem size_f (x : Int) (h0 : -9223372036854775808 < x) (h1 : x ≤ 9223372036854775807) : dec_size.f x = some (x.natAbs : Int) := by
  unfold dec_size.f
  split
  · rw [w64 (by omega) (by omega), u64i (by omega) (by omega)]; congr 1; omega
  · rw [u64i (by omega) (by omega)]; congr 1; omega
theorem abs_f (x : Int) (h0 : -9223372036854775808 < x) (h1 : x ≤ 9223372036854775807) : oculusref08_Abs.f x = some (x.natAbs : Int) := by
  unfold oculusref08_Abs.f
  split
  · rw [w64 (by omega) (by omega), u64i (by omega) (by omega)]; congr 1; omega
  · rw [u64i (by omega) (by omega)]; congr 1; omega
end Go.Proofs.Ytmagefemmhfkaaa.Q
