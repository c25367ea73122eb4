/- Lists of values: as texts, as truths (the functions). -/
import Derived.Test.YtcfhllbobapaiaaDoorFoldBT
set_option linter.unusedVariables false
set_option linter.unusedSimpArgs false
set_option maxRecDepth 100000
namespace Go.Den.ET
open Go Go.Proofs
def concatV (ws : List ByteArray) : Vl := if (joinS ws).2 = true then strV (joinS ws).1 else badV 2
def wordsL (l : List Vl) : List ByteArray := l.map fun v => (asTextV v).text
theorem wordsL_cons (v : Vl) (l : List Vl) : wordsL (v :: l) = (asTextV v).text :: wordsL l := rfl
theorem sp_app (l : List ByteArray) (s : ByteArray) : sp l ++ [.sc (.string s)] = sp (l ++ [s]) := by simp [sp]
theorem strV_text {s : ByteArray} (hs : s.size ≤ 256) : (strV s).text = s := by
  have h : mayV ⟨2, 0, s⟩ = true := by unfold mayV; simp; omega
  unfold strV madeV
  rw [if_pos h]
theorem texS_len (n : Int) : (texS n).length ≤ 30 := by
  unfold texS
  split
  · rename_i h2
    have h1 := head_len h2
    unfold texL
    rw [List.length_append]
    have h3 := frac_len 4 (n.natAbs % 10000)
    have h4 : (fracS (n.natAbs % 10000)).length ≤ 5 := by
      unfold fracS
      split
      · simp
      · rw [List.length_cons]; omega
    omega
  · simp
/-- An odd number of truths? -/
def xorV : List Vl → Bool → Vl
  | [], odd => boolV odd
  | v :: l, odd => if (asTruthV v).kind = 4 then asTruthV v else xorV l (odd != ((asTruthV v).num == 1))
theorem truth_num {v : Vl} (hm : mayV v = true) (h : (asTruthV v).kind ≠ 4) : (asTruthV v).num = 0 ∨ (asTruthV v).num = 1 := by
  obtain ⟨k, n, t⟩ := v
  unfold asTruthV at h ⊢
  unfold mayV at hm
  dsimp only at hm h ⊢
  have bo : ∀ b, (boolV b).num = 0 ∨ (boolV b).num = 1 := fun b => by cases b <;> simp [boolV]
  by_cases h0 : k = 0
  · rw [if_pos h0]; exact bo _
  rw [if_neg h0] at hm h ⊢
  by_cases h1 : k = 1
  · rw [if_pos h1]; exact bo _
  rw [if_neg h1] at hm h ⊢
  by_cases h2 : k = 2
  · rw [if_pos h2] at h ⊢
    split
    · exact bo _
    · rename_i h3
      rw [if_neg h3, bad_2] at h
      exact absurd rfl h
  rw [if_neg h2] at hm h ⊢
  by_cases h3 : k = 3
  · rw [if_pos h3] at hm
    simp only [Bool.and_eq_true, Bool.or_eq_true, beq_iff_eq] at hm
    exact hm.1
  · rw [if_neg h3] at hm
    exact absurd (by
      by_cases h4 : k = 4
      · exact h4
      · rw [if_neg h4] at hm; cases hm) h
end Go.Den.ET
