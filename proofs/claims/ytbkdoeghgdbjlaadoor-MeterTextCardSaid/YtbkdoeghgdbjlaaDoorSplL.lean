/- A text, cut at its blanks: the plain part. -/
import Derived.Test.YtbkdoeghgdbjlaaDoorDigL
import Derived.Lib.Split
import Derived.Lib.SplitLaws
set_option linter.unusedVariables false
set_option linter.unusedSimpArgs false
namespace Go.Den
open Go Go.Proofs
/-- A text, cut at its blanks. -/
def spl : List UInt8 → List (List UInt8)
  | [] => [[]]
  | b :: l => if b = 32 then [] :: spl l else match spl l with
    | h :: t => (b :: h) :: t
    | [] => [[b]]
theorem spl_ne : ∀ l, ∃ h t, spl l = h :: t
  | [] => ⟨_, _, rfl⟩
  | b :: l => by
    unfold spl
    split
    · exact ⟨_, _, rfl⟩
    · obtain ⟨h, t, e⟩ := spl_ne l
      rw [e]; exact ⟨_, _, rfl⟩
theorem spl_cons {b : UInt8} (hb : b ≠ 32) {l h : List UInt8} {t : List (List UInt8)} (e : spl l = h :: t) : spl (b :: l) = (b :: h) :: t := by
  unfold spl; rw [if_neg hb, e]
theorem spl_blank (l : List UInt8) : spl (32 :: l) = [] :: spl l := by
  conv => lhs; unfold spl
  rfl
theorem splitK_eq : ∀ l : List UInt8, Lib.splitK [32] 0 (Lib.count l [32]) l = spl l
  | [] => by
    rw [Lib.count_miss (by rfl)]; rfl
  | b :: l => by
    by_cases hb : b = 32
    · subst hb
      have hix : Lib.index (32 :: l) [32] = ((0 : Nat) : Int) := by rw [Lib.index]; simp [List.isPrefixOf]
      rw [Lib.count_cons_eq, Nat.add_comm, Lib.splitK, if_neg (by rw [hix]; decide), hix, spl_blank, ← splitK_eq l]
      rfl
    · have hp : ([32] : List UInt8).isPrefixOf (b :: l) = false := by simp [List.isPrefixOf, Ne.symm hb]
      have hix : Lib.index (b :: l) [32] = if Lib.index l [32] == -1 then -1 else Lib.index l [32] + 1 := by rw [Lib.index, hp]; simp
      have ih := splitK_eq l
      rw [Lib.count_cons_ne b 32 l hb]
      by_cases hm : Lib.index l [32] = -1
      · rw [Lib.count_miss hm] at ih ⊢
        rw [spl_cons hb (h := l) (t := []) ih.symm]; rfl
      · have hge := Lib.index_ge l [32]
        obtain ⟨j, hj⟩ : ∃ j : Nat, Lib.index l [32] = j := ⟨(Lib.index l [32]).toNat, by omega⟩
        have hix' : Lib.index (b :: l) [32] = ((j + 1 : Nat) : Int) := by rw [hix, if_neg (by rw [hj]; simp <;> omega), hj]; omega
        rw [Lib.count_hit (by simp) hj, Nat.add_comm] at ih ⊢
        rw [Lib.splitK, if_neg (by rw [hj]; simp <;> omega), hj] at ih
        rw [Lib.splitK, if_neg (by rw [hix']; simp <;> omega), hix']
        rw [spl_cons hb ih.symm]
        rfl
theorem splitB_spl (l : List UInt8) : Lib.splitB (B [32]) 0 (Lib.countB (B l) (B [32])) (B l) = (spl l).map B := by
  have h := Lib.splitB_data (B [32]) 0 (Lib.countB (B l) (B [32])) (B l)
  have e : Lib.splitK (B [32]).data.toList 0 (Lib.countB (B l) (B [32])) (B l).data.toList = spl l := splitK_eq l
  rw [e] at h
  rw [← h, List.map_map]
  conv => lhs; rw [← List.map_id (Lib.splitB (B [32]) 0 (Lib.countB (B l) (B [32])) (B l))]
  apply List.map_congr_left
  intro s _
  rcases s with ⟨⟨s⟩⟩
  rfl
theorem spl_no : ∀ (l : List UInt8) (w : List UInt8), w ∈ spl l → (32 : UInt8) ∉ w
  | [], w, h => by
    have : w = [] := by simpa [spl] using h
    subst this; simp
  | b :: l, w, h => by
    by_cases hb : b = 32
    · subst hb
      rw [spl_blank] at h
      rcases List.mem_cons.1 h with rfl | h
      · simp
      · exact spl_no l w h
    · obtain ⟨h0, t0, e0⟩ := spl_ne l
      rw [spl_cons hb e0] at h
      have ih := spl_no l
      rw [e0] at ih
      rcases List.mem_cons.1 h with rfl | h
      · intro hm
        rcases List.mem_cons.1 hm with hm | hm
        · exact hb hm.symm
        · exact ih h0 List.mem_cons_self hm
      · exact ih w (List.mem_cons_of_mem _ h)
theorem spl_word : ∀ (w r : List UInt8), (32 : UInt8) ∉ w → spl (w ++ 32 :: r) = w :: spl r
  | [], r, _ => spl_blank r
  | b :: w, r, h => by
    have hb : b ≠ 32 := fun e => h (by rw [e]; exact List.mem_cons_self)
    rw [List.cons_append]
    exact spl_cons hb (spl_word w r fun hm => h (List.mem_cons_of_mem _ hm))
theorem spl_last : ∀ w : List UInt8, (32 : UInt8) ∉ w → spl w = [w]
  | [], _ => rfl
  | b :: w, h => by
    have hb : b ≠ 32 := fun e => h (by rw [e]; exact List.mem_cons_self)
    exact spl_cons hb (spl_last w fun hm => h (List.mem_cons_of_mem _ hm))
theorem spl_len : ∀ l : List UInt8, (spl l).flatten.length + (spl l).length = l.length + 1
  | [] => rfl
  | b :: l => by
    have ih := spl_len l
    by_cases hb : b = 32
    · subst hb
      rw [spl_blank, List.flatten_cons, List.nil_append, List.length_cons, List.length_cons]; omega
    · obtain ⟨h0, t0, e0⟩ := spl_ne l
      rw [spl_cons hb e0]
      rw [e0] at ih
      simp only [List.flatten_cons, List.length_append, List.length_cons] at ih ⊢
      omega
/-- The words of what is left, the first one begun. -/
def spA (a : List UInt8) (l : List UInt8) : List (List UInt8) := match spl l with
  | h :: t => (a ++ h) :: t
  | [] => [a]
theorem spA_nil (l : List UInt8) : spA [] l = spl l := by
  obtain ⟨h, t, e⟩ := spl_ne l
  unfold spA; rw [e]; rfl
theorem spA_end (a : List UInt8) : spA a [] = [a] := by
  unfold spA; rw [spl]; simp
theorem spA_blank (a l : List UInt8) : spA a (32 :: l) = a :: spl l := by
  unfold spA; rw [spl_blank]; simp
theorem spA_cons (a : List UInt8) {b : UInt8} (hb : b ≠ 32) (l : List UInt8) : spA a (b :: l) = spA (a ++ [b]) l := by
  obtain ⟨h, t, e⟩ := spl_ne l
  unfold spA; rw [spl_cons hb e, e]; simp
theorem spl_w {w r : List UInt8} (h : (32 : UInt8) ∉ w) : spl (w ++ ([32] ++ r)) = w :: spl r := spl_word w r h
theorem dd_no (n : Nat) : (32 : UInt8) ∉ Lib.decDigits n := by
  intro h
  have := List.all_eq_true.1 (dd_all n) _ h
  revert this; decide
end Go.Den
