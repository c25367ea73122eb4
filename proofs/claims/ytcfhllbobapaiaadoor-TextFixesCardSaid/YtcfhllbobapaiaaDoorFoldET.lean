/- Sums, and the middle. -/
import Derived.Test.YtcfhllbobapaiaaDoorFoldDT
import Derived.Test.YtcfhllbobapaiaaDoorDigRT
set_option linter.unusedVariables false
set_option linter.unusedSimpArgs false
set_option maxRecDepth 100000
namespace Go.Den.ET
open Go Go.Proofs
theorem addS_i {a b : Int} (ha : I64 a) : I64 (addS a b).1 := by
  unfold addS
  split
  · rename_i h; exact h.2.2.i
  · show I64 0; unfold I64; omega
def sumS : List Int → Int → Int × Bool
  | [], b => (b, true)
  | x :: xs, b => if (addS b x).2 = true then sumS xs (addS b x).1 else (0, false)
theorem sumS_i : ∀ (xs : List Int) (b : Int), I64 b → I64 (sumS xs b).1
  | [], b, h => h
  | x :: xs, b, h => by
    rw [sumS]
    split
    · exact sumS_i xs _ (addS_i h)
    · show I64 0; unfold I64; omega
theorem sumS_sum : ∀ (xs : List Int) (b : Int), (sumS xs b).2 = true → (sumS xs b).1 = b + xs.sum
  | [], b, _ => by simp [sumS]
  | x :: xs, b, h => by
    rw [sumS] at h ⊢
    by_cases h2 : (addS b x).2 = true
    · rw [if_pos h2] at h ⊢
      rw [sumS_sum xs _ h, List.sum_cons]
      unfold addS at h2 ⊢
      split at h2
      · rename_i h3; rw [if_pos h3]; omega
      · cases h2
    · rw [if_neg h2] at h; cases h
theorem sumS_may : ∀ (xs : List Int) (b : Int), May b → (sumS xs b).2 = true → May (sumS xs b).1
  | [], b, h, _ => h
  | x :: xs, b, hb, h => by
    rw [sumS] at h ⊢
    by_cases h2 : (addS b x).2 = true
    · rw [if_pos h2] at h ⊢
      refine sumS_may xs _ ?_ h
      unfold addS at h2 ⊢
      split at h2
      · rename_i h3; rw [if_pos h3]; exact h3.2.2
      · cases h2
    · rw [if_neg h2] at h; cases h
def pvGa (g : Int × Bool) : PV := .agg [.sc (.int .i64 g.1), .sc (.bool g.2)]
theorem radd_ev {a b : Int} (ha : I64 a) (hb : I64 b) : D 131 [.sc (.int .i64 a), .sc (.int .i64 b)] = some (pvGa (addS a b)) := by
  have ma : decide (a ≥ -9223372036854775807) = decide (May a) := by congr 1; apply propext; unfold I64 at ha; unfold May; omega
  have mb : decide (b ≥ -9223372036854775807) = decide (May b) := by congr 1; apply propext; unfold I64 at hb; unfold May; omega
  rw [f131_eq 0]
  simp only [rmay8_ev ha, rmay8_ev hb, bs, shb, if_true, tb, bA, bO]
  unfold I64 at ha hb
  have d1 : (decide (b > 0) && decide (a > IntKind.i64.wrap ((9223372036854775807 : Int) - b))) = decide (b > 0 ∧ a + b > 9223372036854775807) := by
    by_cases h : b > 0
    · rw [w64 (by omega) (by omega), decide_eq_true h, Bool.true_and]; congr 1; apply propext; omega
    · rw [decide_eq_false h, Bool.false_and, decide_eq_false (by omega)]
  have d2 : (decide (b < 0) && decide (a < IntKind.i64.wrap ((-9223372036854775807 : Int) - b))) = decide (b < 0 ∧ a + b < -9223372036854775807) := by
    by_cases h : b < 0
    · rw [w64 (by omega) (by omega), decide_eq_true h, Bool.true_and]; congr 1; apply propext; omega
    · rw [decide_eq_false h, Bool.false_and, decide_eq_false (by omega)]
  simp only [d1, d2]
  unfold addS
  by_cases h : May a ∧ May b ∧ May (a + b)
  · rw [if_pos h]
    refine im ?_ ?_
    · simp only [Bool.or_eq_true, Bool.not_eq_true', decide_eq_true_eq, decide_eq_false_iff_not]
      unfold May at h ⊢; omega
    · unfold May at h
      rw [w64 (by omega) (by omega)]; rfl
  · rw [if_neg h]
    refine ip ?_ rfl
    simp only [Bool.or_eq_true, Bool.not_eq_true', decide_eq_true_eq, decide_eq_false_iff_not]
    unfold May at h ⊢; omega
theorem addS_0 {a b : Int} (h : (addS a b).2 = false) : (addS a b).1 = 0 := by
  unfold addS at h ⊢
  split at h
  · cases h
  · rename_i h2; rw [if_neg h2]
/-- The middle: of a whole number, over a small one. -/
def rq (a n : Nat) : Nat := if n - a % n ≤ a % n then a / n + 1 else a / n
def mid (a : Int) (n : Nat) : Int := if a < 0 then -(rq a.natAbs n : Int) else (rq a.natAbs n : Int)
theorem rq_le {a n : Nat} (ha : (a : Int) ≤ 9223372036854775807) (hn : 1 ≤ n) : (rq a n : Int) ≤ 9223372036854775807 := by
  unfold rq
  have h1 := Nat.div_le_self a n
  split
  · rename_i h
    have h2 : 2 ≤ n := by
      rcases Nat.lt_or_ge n 2 with h3 | h3
      · have : n = 1 := by omega
        subst this; rw [Nat.mod_one] at h; omega
      · exact h3
    have h4 : a / n * 2 ≤ a := Nat.le_trans (Nat.mul_le_mul_left _ h2) (Nat.div_mul_le_self a n)
    omega
  · omega
end Go.Den.ET
