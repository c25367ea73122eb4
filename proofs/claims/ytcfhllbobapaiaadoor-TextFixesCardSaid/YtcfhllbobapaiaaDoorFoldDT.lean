/- Lists of values: numbers, the best one, how many (the functions). -/
import Derived.Test.YtcfhllbobapaiaaDoorFoldCT
set_option linter.unusedVariables false
set_option linter.unusedSimpArgs false
set_option maxRecDepth 100000
namespace Go.Den.ET
open Go Go.Proofs
def nums : List Vl → List Int
  | [] => []
  | v :: l => if v.kind = 1 then v.num :: nums l else nums l
theorem nums_len : ∀ l : List Vl, (nums l).length ≤ l.length
  | [] => Nat.le_refl _
  | v :: l => by
    have := nums_len l
    unfold nums
    split <;> simp <;> omega
theorem nums_app : ∀ l m : List Vl, nums (l ++ m) = nums l ++ nums m
  | [], m => rfl
  | v :: l, m => by
    rw [List.cons_append, nums, nums, nums_app l m]
    split <;> rfl
theorem nums_rev : ∀ l : List Vl, nums l.reverse = (nums l).reverse
  | [] => rfl
  | v :: l => by
    rw [List.reverse_cons, nums_app, nums_rev l]
    by_cases h : v.kind = 1 <;> simp [nums, h]
theorem nums_i {l : List Vl} (hn : ∀ v, v ∈ l → I64 v.num) : ∀ x, x ∈ nums l → I64 x := by
  induction l with
  | nil => intro x hx; cases hx
  | cons v l ih =>
    intro x hx
    rw [nums] at hx
    split at hx
    · rcases List.mem_cons.1 hx with rfl | hx
      · exact hn _ List.mem_cons_self
      · exact ih (fun v hv => hn v (List.mem_cons_of_mem _ hv)) x hx
    · exact ih (fun v hv => hn v (List.mem_cons_of_mem _ hv)) x hx
theorem ip_app (l : List Int) (s : Int) : ip_ l ++ [.sc (.int .i64 s)] = ip_ (l ++ [s]) := by simp [ip_]
theorem frz0 (k : Nat) : frozen k ([] : List PV) = .lst k 0 (fun _ => .top) := rfl
def numsF (l : List Vl) : List Int := match faultO l with | some _ => [] | none => nums l
/-- The best one. -/
def bet (m : Bool) (x o : Int) : Bool := if m then decide (x > o) else decide (x < o)
def bst (m : Bool) (o : Int) : List Int → Int
  | [] => o
  | x :: xs => bst m (if bet m x o = true then x else o) xs
def bestL (m : Bool) : List Int → Int
  | [] => 0
  | x :: xs => bst m x xs
theorem bst_mem (m : Bool) : ∀ (xs : List Int) (o : Int), bst m o xs = o ∨ bst m o xs ∈ xs
  | [], o => .inl rfl
  | x :: xs, o => by
    rw [bst]
    rcases bst_mem m xs (if bet m x o = true then x else o) with h | h
    · rw [h]
      split
      · exact .inr List.mem_cons_self
      · exact .inl rfl
    · exact .inr (List.mem_cons_of_mem _ h)
theorem bst_best (m : Bool) : ∀ (xs : List Int) (o : Int), bet m o (bst m o xs) = false ∧ ∀ x, x ∈ xs → bet m x (bst m o xs) = false
  | [], o => by cases m <;> simp [bst, bet]
  | x :: xs, o => by
    have ⟨h1, h2⟩ := bst_best m xs (if bet m x o = true then x else o)
    rw [bst]
    generalize bst m (if bet m x o = true then x else o) xs = r at *
    have h3 : bet m o r = false ∧ bet m x r = false := by
      cases m <;> simp only [bet, Bool.false_eq_true, if_true, if_false, decide_eq_false_iff_not, decide_eq_true_eq] at * <;> split at h1 <;> omega
    refine ⟨h3.1, fun y hy => ?_⟩
    rcases List.mem_cons.1 hy with rfl | hy
    · exact h3.2
    · exact h2 y hy
theorem best_spec (m : Bool) {xs : List Int} (h : xs ≠ []) : bestL m xs ∈ xs ∧ ∀ x, x ∈ xs → bet m x (bestL m xs) = false := by
  cases xs with
  | nil => exact absurd rfl h
  | cons x xs =>
    have ⟨h1, h2⟩ := bst_best m xs x
    refine ⟨?_, fun y hy => ?_⟩
    · rcases bst_mem m xs x with h | h
      · rw [bestL, h]; exact List.mem_cons_self
      · exact List.mem_cons_of_mem _ h
    · rcases List.mem_cons.1 hy with rfl | hy
      · exact h1
      · exact h2 y hy
theorem best_rev (m : Bool) (xs : List Int) : bestL m xs.reverse = bestL m xs := by
  by_cases h : xs = []
  · subst h; rfl
  · have ⟨h1, h2⟩ := best_spec m h
    have ⟨h3, h4⟩ := best_spec m (xs := xs.reverse) (by simpa using h)
    have h5 := h2 _ (List.mem_reverse.1 h3)
    have h6 := h4 _ (List.mem_reverse.2 h1)
    cases m <;> simp only [bet, Bool.false_eq_true, if_true, if_false, decide_eq_false_iff_not] at h5 h6 <;> omega
theorem best_i (m : Bool) {xs : List Int} (h : ∀ x, x ∈ xs → I64 x) : I64 (bestL m xs) := by
  by_cases h0 : xs = []
  · subst h0; show I64 0; unfold I64; omega
  · exact h _ (best_spec m h0).1
def fOr (l : List Vl) (v : Vl) : Vl := match faultO l with | some w => w | none => v
theorem rfault_at {l : List Vl} {i : Nat} (hi : i < l.length) {X r : Option PV} (h : X = r) :
    (if 0 ≤ (i : Int) then if (i : Int) < ((vp l).length : Int) then if hasSh (.agg [(.int .i64), (.int .i64), .str]) ((vp l).getD (i : Int).toNat .top) = true then X else none else none else none) = r := by
  rw [if_pos (by omega), if_pos (by rw [vp_len]; omega), Int.toNat_natCast, if_pos (vp_sh hi)]; exact h
/-- How many. -/
def cntB (kind : Int) (v : Vl) : Bool := if kind = 1 then v.kind == 1 else if kind = 0 then (v.kind == 0 || (v.kind == 2 && em v.text)) else v.kind != 0
def cntL (kind : Int) (l : List Vl) : Nat := l.countP (cntB kind)
theorem cnt_cons (kind : Int) (v : Vl) (l : List Vl) : cntL kind (v :: l) = cntL kind l + (if cntB kind v = true then 1 else 0) := by
  unfold cntL; rw [List.countP_cons]
theorem cnt_le (kind : Int) (l : List Vl) : cntL kind l ≤ l.length := List.countP_le_length
theorem cnt_rev (kind : Int) (l : List Vl) : cntL kind l.reverse = cntL kind l := by unfold cntL; exact List.countP_reverse
theorem cnt_nums (l : List Vl) : cntL 1 l = (nums l).length := by
  induction l with
  | nil => rfl
  | cons v l ih =>
    rw [cnt_cons, ih, nums]
    by_cases h : v.kind = 1 <;> simp [cntB, h]
end Go.Den.ET
