/- Sums, differences, units. -/
import Derived.Test.YtmagefemmhfkaaaQScaledF
import Derived.Test.YtmagefemmhfkaaaPBx2
import Derived.Test.YtmagefemmhfkaaaPBx8
import Derived.Test.YtmagefemmhfkaaaPBx8
import Derived.Test.YtmagefemmhfkaaaPBx2
import Derived.Test.YtmagefemmhfkaaaPBx2
import Derived.Test.YtmagefemmhfkaaaPBx8
import Derived.Test.YtmagefemmhfkaaaPBx6
import Derived.KernelRfl
namespace Go.Proofs.Ytmagefemmhfkaaa.Q
open Go Go.RowKit Go.Proofs.Ytmagefemmhfkaaa.PA Go.Proofs.YtmagefemmhfkaaaW.PrintWords Go.Proofs.YtmagefemmhfkaaaW.PrintLast Go.Proofs.YtmagefemmhfkaaaW.PrintMore
set_option linter.unusedVariables false
set_option linter.unusedSimpArgs false

def I64 (x : Int) : Prop := -9223372036854775808 ≤ x ∧ x ≤ 9223372036854775807
theorem May.i {x : Int} (h : May x) : I64 x := by unfold May at h; unfold I64; omega
def addS (a b : Int) : Int × Bool := if May a ∧ May b ∧ May (a + b) then (a + b, true) else (0, false)
def negS (a : Int) : Int × Bool := if May a then (-a, true) else (0, false)
def subS (a b : Int) : Int × Bool := if May a ∧ May b ∧ May (a - b) then (a - b, true) else (0, false)
theorem addS_yes {a b : Int} (h : May a ∧ May b ∧ May (a + b)) : addS a b = (a + b, true) := if_pos h
theorem addS_no {a b : Int} (h : ¬ May (a + b)) : addS a b = (0, false) := if_neg (fun hh => h hh.2.2)
theorem add_f {a b : Int} (ha : I64 a) (hb : I64 b) : dec_Add.f a b = some (addS a b) := by
  unfold I64 at ha hb
  unfold dec_Add.f
  rw [may_f ha.1 ha.2, may_f hb.1 hb.2, Option.bind_some]
  by_cases h1 : May a
  · rw [if_pos (decide_eq_true h1), Option.bind_some]
    by_cases h2 : May b
    · rw [if_pos (decide_eq_true h2)]
      have hw := show -9223372036854775808 ≤ wrap64 (a + b) ∧ wrap64 (a + b) ≤ 9223372036854775807 by unfold wrap64; omega
      rw [may_f hw.1 hw.2, Option.bind_some]
      have m1 := h1; have m2 := h2
      unfold May at m1 m2
      by_cases h3 : May (a + b)
      · have m3 := h3
        unfold May at m3
        have ew : wrap64 (a + b) = a + b := w64 (by omega) (by omega)
        rw [show addS a b = (a + b, true) from if_pos ⟨h1, h2, h3⟩, ew, if_pos (decide_eq_true h3)]
        repeat' split
        all_goals first | rfl | (exfalso; omega)
      · rw [show addS a b = (0, false) from if_neg (fun h => h3 h.2.2)]
        by_cases h4 : May (wrap64 (a + b))
        · rw [if_pos (decide_eq_true h4)]
          unfold May at h3 h4
          unfold wrap64 at h4 ⊢
          repeat' split
          all_goals first | rfl | (exfalso; omega)
        · rw [if_neg (by rw [decide_eq_false h4]; decide)]
    · rw [if_neg (by rw [decide_eq_false h2]; decide), show addS a b = (0, false) from if_neg (fun h => h2 h.2.1)]
  · rw [if_neg (by rw [decide_eq_false h1]; decide), show addS a b = (0, false) from if_neg (fun h => h1 h.1)]
theorem radd_f {a b : Int} (ha : I64 a) (hb : I64 b) : oculusref08_Add.f a b = some (addS a b) := by
  unfold I64 at ha hb
  unfold oculusref08_Add.f
  rw [rmay_f ha.1 ha.2, rmay_f hb.1 hb.2, Option.bind_some]
  by_cases h1 : May a
  · rw [if_pos (decide_eq_true h1), Option.bind_some]
    by_cases h2 : May b
    · rw [if_pos (decide_eq_true h2)]
      have m1 := h1; have m2 := h2
      unfold May at m1 m2
      by_cases h3 : May (a + b)
      · have m3 := h3
        unfold May at m3
        rw [show addS a b = (a + b, true) from if_pos ⟨h1, h2, h3⟩, w64 (x := a + b) (by omega) (by omega)]
        unfold wrap64
        repeat' split
        all_goals first | rfl | (exfalso; omega)
      · rw [show addS a b = (0, false) from if_neg (fun h => h3 h.2.2)]
        unfold May at h3
        unfold wrap64
        repeat' split
        all_goals first | rfl | (exfalso; omega)
    · rw [if_neg (by rw [decide_eq_false h2]; decide), show addS a b = (0, false) from if_neg (fun h => h2 h.2.1)]
  · rw [if_neg (by rw [decide_eq_false h1]; decide), show addS a b = (0, false) from if_neg (fun h => h1 h.1)]
theorem neg_f {a : Int} (ha : I64 a) : dec_Neg.f a = some (negS a) := by
  unfold I64 at ha
  unfold dec_Neg.f negS
  rw [may_f ha.1 ha.2, Option.bind_some]
  by_cases h1 : May a
  · rw [if_pos (decide_eq_true h1), if_pos h1]; have m1 := h1; unfold May at m1; rw [w64 (by omega) (by omega)]
  · rw [if_neg (by rw [decide_eq_false h1]; decide), if_neg h1]
theorem addS_neg {a b : Int} (hb : May b) : addS a (-b) = subS a b := by
  unfold addS subS
  by_cases h : May a ∧ May b ∧ May (a - b)
  · rw [if_pos h, if_pos ⟨h.1, by unfold May at *; omega, by rw [← Int.sub_eq_add_neg]; exact h.2.2⟩, Int.sub_eq_add_neg]
  · rw [if_neg h, if_neg (fun hh => h ⟨hh.1, hb, by rw [Int.sub_eq_add_neg]; exact hh.2.2⟩)]
theorem sub_f {a b : Int} (ha : I64 a) (hb : I64 b) : dec_Sub.f a b = some (subS a b) := by
  unfold dec_Sub.f
  rw [neg_f hb, Option.bind_some]
  unfold negS
  by_cases h : May b
  · rw [if_pos h, if_pos rfl, add_f ha (by unfold May at h; unfold I64; omega), Option.bind_some, addS_neg h]
  · rw [if_neg h, if_neg (by decide)]; unfold subS; rw [if_neg (fun hh => h hh.2.1)]

/-- Go's quotient and rest, cut off. -/
theorem tdm (a : Int) {m : Int} (hm : 0 < m) : a = a.tdiv m * m + a.tmod m ∧ (0 ≤ a → 0 ≤ a.tmod m ∧ a.tmod m < m) ∧ (a ≤ 0 → -m < a.tmod m ∧ a.tmod m ≤ 0) := by
  refine ⟨(Int.tdiv_mul_add_tmod a m).symm, fun h => ⟨Int.tmod_nonneg _ h, Int.tmod_lt_of_pos _ hm⟩, fun h => ?_⟩
  have h1 := Int.tmod_nonneg m (a := -a) (by omega)
  have h2 := Int.tmod_lt_of_pos (-a) hm
  rw [Int.neg_tmod] at h1 h2
  omega
theorem tdlow (a : Int) {m : Int} (hm : 0 < m) : (0 ≤ a → 0 ≤ a.tdiv m * m) ∧ (a ≤ 0 → a.tdiv m * m ≤ 0) := by
  refine ⟨fun h => Int.mul_nonneg (Int.tdiv_nonneg h (Int.le_of_lt hm)) (Int.le_of_lt hm), fun h => ?_⟩
  have := Int.mul_nonneg (Int.tdiv_nonneg (a := -a) (by omega) (Int.le_of_lt hm)) (Int.le_of_lt hm)
  rw [Int.neg_tdiv, Int.neg_mul] at this
  omega
theorem units_f {a : Int} (ha : I64 a) : dec_Units.f a = some (if May a then a.tdiv 10000 else 0) := by
  have t := tdm a (m := 10000) (by decide)
  unfold I64 at ha
  unfold dec_Units.f
  rw [may_f ha.1 ha.2, Option.bind_some]
  by_cases h1 : May a
  · rw [if_pos (decide_eq_true h1), if_pos h1, w64 (by omega) (by omega)]
  · rw [if_neg (by rw [decide_eq_false h1]; decide), if_neg h1]
theorem whole_f {a : Int} (ha : I64 a) : dec_Whole.f a = some (decide (a.tmod 10000 = 0 ∧ May a)) := by
  unfold I64 at ha
  unfold dec_Whole.f
  by_cases h : a.tmod 10000 = 0
  · rw [if_pos h, may_f ha.1 ha.2, Option.bind_some]; simp [h]
  · rw [if_neg h]; simp [h]
theorem alive08 : Ev (fun k => oculuslaw08_alive.f k) true := Ev.of (fun k => oculuslaw08_alive.mono k) (k := 300) (by kernel_rfl)
end Go.Proofs.Ytmagefemmhfkaaa.Q
