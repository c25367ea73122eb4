/- What is put in the place of a text; texts within marks: the plain part. -/
import Derived.Test.YtbkdoeghgdbjlaaDoorDigL
import Derived.Lib.Replace
set_option linter.unusedVariables false
set_option linter.unusedSimpArgs false
namespace Go.Den
open Go Go.Proofs
theorem idx_cons (b : UInt8) (l o : List UInt8) (h : o.isPrefixOf (b :: l) = false) : (Lib.index l o = -1 ∧ Lib.index (b :: l) o = -1) ∨ ∃ i : Nat, Lib.index l o = i ∧ Lib.index (b :: l) o = ((i + 1 : Nat) : Int) := by
  have e : Lib.index (b :: l) o = if Lib.index l o == -1 then -1 else Lib.index l o + 1 := by
    conv => lhs; unfold Lib.index
    rw [if_neg (by rw [h]; decide)]
  have hg := Lib.index_ge l o
  by_cases hm : Lib.index l o = -1
  · exact .inl ⟨hm, by rw [e, hm]; rfl⟩
  · refine .inr ⟨(Lib.index l o).toNat, by omega, ?_⟩
    rw [e, if_neg (by simpa using hm)]; omega
theorem idx_hit (b : UInt8) (l o : List UInt8) (h : o.isPrefixOf (b :: l) = true) : Lib.index (b :: l) o = ((0 : Nat) : Int) := by
  unfold Lib.index
  rw [if_pos h]; rfl
theorem cnt_hit {b : UInt8} {l o : List UInt8} (ho : o ≠ []) (h : o.isPrefixOf (b :: l) = true) : Lib.count (b :: l) o = 1 + Lib.count ((b :: l).drop o.length) o := by
  have := Lib.count_hit ho (idx_hit b l o h)
  rwa [Nat.zero_add] at this
theorem cnt_miss {b : UInt8} {l o : List UInt8} (ho : o ≠ []) (h : o.isPrefixOf (b :: l) = false) : Lib.count (b :: l) o = Lib.count l o := by
  rcases idx_cons b l o h with ⟨h1, h2⟩ | ⟨i, h1, h2⟩
  · rw [Lib.count_miss h1, Lib.count_miss h2]
  · rw [Lib.count_hit ho h1, Lib.count_hit ho h2, show i + 1 + o.length = (i + o.length) + 1 by omega, List.drop_succ_cons]
theorem cnt_nil {o : List UInt8} (ho : o ≠ []) : Lib.count [] o = 0 := by
  refine Lib.count_miss ?_
  unfold Lib.index
  rw [if_neg (by cases o <;> simp_all)]
/-- What is put. -/
def repR (o n s : List UInt8) : List UInt8 := Lib.replaceK o n (Lib.count s o) s
theorem rep_nil {o n : List UInt8} (ho : o ≠ []) : repR o n [] = [] := by unfold repR; rw [cnt_nil ho]; rfl
theorem rep_hit {b : UInt8} {l o n : List UInt8} (ho : o ≠ []) (h : o.isPrefixOf (b :: l) = true) : repR o n (b :: l) = n ++ repR o n ((b :: l).drop o.length) := by
  unfold repR
  rw [cnt_hit ho h, Nat.add_comm, Lib.replaceK_hit o n _ _ 0 (idx_hit b l o h), Nat.zero_add]
  rfl
theorem rep_miss {b : UInt8} {l o n : List UInt8} (ho : o ≠ []) (h : o.isPrefixOf (b :: l) = false) : repR o n (b :: l) = b :: repR o n l := by
  unfold repR
  rw [cnt_miss ho h]
  rcases idx_cons b l o h with ⟨h1, h2⟩ | ⟨i, h1, h2⟩
  · rw [Lib.count_miss h1]; rfl
  · rw [Lib.count_hit ho h1, Nat.add_comm, Lib.replaceK_hit o n _ _ i h1, Lib.replaceK_hit o n _ _ (i + 1) h2, show i + 1 + o.length = (i + o.length) + 1 by omega, List.drop_succ_cons]
    rfl
theorem rep_ind {o : List UInt8} (ho : o ≠ []) (M : List UInt8 → Prop) (h0 : M []) (h1 : ∀ b l, o.isPrefixOf (b :: l) = true → M ((b :: l).drop o.length) → M (b :: l)) (h2 : ∀ b l, o.isPrefixOf (b :: l) = false → M l → M (b :: l)) : ∀ (d : Nat) (s : List UInt8), s.length ≤ d → M s
  | _, [], _ => h0
  | 0, b :: l, h => by simp at h
  | d + 1, b :: l, h => by
    have hp : 0 < o.length := List.length_pos_iff.2 ho
    cases e : o.isPrefixOf (b :: l)
    · exact h2 b l e (rep_ind ho M h0 h1 h2 d l (by simp at h; omega))
    · exact h1 b l e (rep_ind ho M h0 h1 h2 d _ (by rw [List.length_drop]; simp at h ⊢; omega))
theorem pre_len {o s : List UInt8} (h : o.isPrefixOf s = true) : o.length ≤ s.length ∧ s.take o.length = o := by
  have := List.isPrefixOf_iff_prefix.1 h
  obtain ⟨t, rfl⟩ := this
  exact ⟨by simp, by simp⟩
theorem rep_len {o n : List UInt8} (ho : o ≠ []) (s : List UInt8) : (repR o n s).length + Lib.count s o * o.length = s.length + Lib.count s o * n.length := by
  refine rep_ind ho (fun s => (repR o n s).length + Lib.count s o * o.length = s.length + Lib.count s o * n.length) ?_ ?_ ?_ s.length s (Nat.le_refl _)
  · rw [rep_nil ho, cnt_nil ho]; simp
  · intro b l h ih
    have := (pre_len h).1
    rw [rep_hit ho h, cnt_hit ho h, List.length_append]
    rw [List.length_drop] at ih
    rw [Nat.add_mul, Nat.add_mul, Nat.one_mul, Nat.one_mul]
    omega
  · intro b l h ih
    rw [rep_miss ho h, cnt_miss ho h]
    simp only [List.length_cons]
    omega
theorem rep_same {o : List UInt8} (ho : o ≠ []) (s : List UInt8) : repR o o s = s := by
  refine rep_ind ho (fun s => repR o o s = s) (rep_nil ho) ?_ ?_ s.length s (Nat.le_refl _)
  · intro b l h ih
    rw [rep_hit ho h, ih]
    have := (pre_len h).2
    conv => lhs; lhs; rw [← this]
    exact List.take_append_drop _ _
  · intro b l h ih
    rw [rep_miss ho h, ih]
def dblL : List UInt8 → List UInt8
  | [] => []
  | b :: l => if b = 34 then 34 :: 34 :: dblL l else b :: dblL l
def quoL (l : List UInt8) : List UInt8 := 34 :: (dblL l ++ [34])
theorem rep_dbl : ∀ l : List UInt8, repR [34] [34, 34] l = dblL l
  | [] => rep_nil (by simp)
  | b :: l => by
    rw [dblL]
    by_cases h : b = 34
    · subst h
      rw [if_pos rfl, rep_hit (by simp) (by simp [List.isPrefixOf])]
      show 34 :: 34 :: repR [34] [34, 34] l = _
      rw [rep_dbl l]
    · rw [if_neg h, rep_miss (by simp) (by simp [List.isPrefixOf, Ne.symm h]), rep_dbl l]
theorem dbl_len : ∀ l : List UInt8, (dblL l).length ≤ 2 * l.length
  | [] => by simp [dblL]
  | b :: l => by
    have := dbl_len l
    rw [dblL]
    split <;> simp <;> omega
end Go.Den
