/- Tokens of a text: the plain part. -/
import Derived.Test.YtbkdoeghgdbjlaaDoorDigP
set_option linter.unusedVariables false
set_option linter.unusedSimpArgs false
namespace Go.Den
open Go Go.Proofs
structure Tk where
  kind : Nat
  loc : Nat
  text : List UInt8
  num : Int
def plainB (b : UInt8) : Bool := decide (32 ≤ b.toNat) && b.toNat != 127
def uppB (b : UInt8) : Bool := (decide (65 ≤ b.toNat) && decide (b.toNat ≤ 90)) || b.toNat == 36
def wrdB (b : UInt8) : Bool := uppB b || isD b
/-- The text within marks (behind the first one), and how many bytes it takes. -/
def strL : List UInt8 → Option (List UInt8 × Nat)
  | [] => none
  | [b] => if plainB b = false then none else if b = 34 then some ([], 1) else none
  | b :: c :: l => if plainB b = false then none else if b = 34 then (if c = 34 then (strL l).map (fun r => (34 :: r.1, r.2 + 2)) else some ([], 1)) else (strL (c :: l)).map (fun r => (b :: r.1, r.2 + 1))
def runW : List UInt8 → Nat
  | [] => 0
  | b :: l => if wrdB b = true then runW l + 1 else 0
def sigs : List (List UInt8) := [[35, 82, 69, 70], [60, 62], [60, 61], [62, 61], [43], [45], [42], [47], [94], [38], [61], [60], [62], [40], [41], [44], [58]]
def signL (s : List UInt8) : Option (List UInt8) := sigs.find? (fun t => t.isPrefixOf s)
/-- The token with which a text begins, and how many bytes it takes. -/
def nextL : List UInt8 → Option (Tk × Nat)
  | [] => none
  | b :: l =>
    if isD b = true then (if (leadL (b :: l)).2.2 = true then some (⟨1, 0, [], (leadL (b :: l)).1⟩, leadn (b :: l)) else none)
    else if b = 34 then (strL l).map (fun r => (⟨2, 0, r.1, 0⟩, r.2 + 1))
    else if uppB b = true then some (⟨3, 0, b :: l.take (runW l), 0⟩, runW l + 1)
    else (signL (b :: l)).map (fun t => (⟨4, 0, t, 0⟩, t.length))
def Tk.put (t : Tk) (a : Nat) : Tk := ⟨t.kind, a, t.text, t.num⟩
/-- All tokens from a place on; or the place that is wrong. -/
def lexL (a : Nat) (s : List UInt8) : Nat ⊕ List Tk :=
  match s with
  | [] => .inr [⟨5, a, [], 0⟩]
  | b :: l => if b = 32 then lexL (a + 1) l else match nextL (b :: l) with
    | none => .inl a
    | some (t, n) => match lexL (a + n) (l.drop (n - 1)) with
      | .inl e => .inl e
      | .inr r => .inr (t.put a :: r)
termination_by s.length
decreasing_by all_goals (simp; try omega)
theorem runD_pos {m : Nat} {b : UInt8} {l : List UInt8} (h : isD b = true) : 0 < runD (m + 1) (b :: l) := by
  rw [runD, if_pos h]; omega
theorem leadn_pos {b : UInt8} {l : List UInt8} (h : isD b = true) : 0 < leadn (b :: l) := by
  have := runD_pos (m := 29) (l := l) h
  unfold leadn
  dsimp only
  split
  · omega
  · exact this
theorem strL_le : ∀ (l : List UInt8) (r : List UInt8 × Nat), strL l = some r → r.2 ≤ l.length
  | [], r, h => by rw [strL] at h; cases h
  | [b], r, h => by
    rw [strL] at h
    split at h
    · cases h
    · split at h
      · cases h; simp
      · cases h
  | b :: c :: l, r, h => by
    rw [strL] at h
    split at h
    · cases h
    · split at h
      · split at h
        · obtain ⟨r', h1, rfl⟩ := Option.map_eq_some_iff.1 h
          have := strL_le l r' h1
          simp; omega
        · cases h; simp
      · obtain ⟨r', h1, rfl⟩ := Option.map_eq_some_iff.1 h
        have := strL_le (c :: l) r' h1
        simp at this ⊢; omega
theorem runW_le : ∀ l : List UInt8, runW l ≤ l.length
  | [] => Nat.le_refl _
  | b :: l => by have := runW_le l; rw [runW]; split <;> simp <;> omega
theorem sign_pre {s t : List UInt8} (h : signL s = some t) : t.isPrefixOf s = true ∧ t ∈ sigs := by
  unfold signL at h
  exact ⟨by simpa using List.find?_some h, List.mem_of_find?_eq_some h⟩
theorem sigs_len {t : List UInt8} (h : t ∈ sigs) : 0 < t.length ∧ t.length ≤ 4 := by
  have : ∀ t ∈ sigs, 0 < t.length ∧ t.length ≤ 4 := by decide
  exact this t h
theorem sign_len {s t : List UInt8} (h : signL s = some t) : t.length ≤ s.length := by
  have := (sign_pre h).1
  exact (List.isPrefixOf_iff_prefix.1 this).length_le
theorem next_le {s : List UInt8} {t : Tk} {n : Nat} (h : nextL s = some (t, n)) : 0 < n ∧ n ≤ s.length := by
  rcases s with _ | ⟨b, l⟩
  · cases h
  rw [nextL] at h
  split at h
  · rename_i hd
    split at h
    · cases h
      exact ⟨leadn_pos hd, leadn_le _⟩
    · cases h
  · split at h
    · obtain ⟨r, h1, h2⟩ := Option.map_eq_some_iff.1 h
      cases h2
      have := strL_le l r h1
      simp; omega
    · split at h
      · cases h
        have := runW_le l
        simp; omega
      · obtain ⟨r, h1, h2⟩ := Option.map_eq_some_iff.1 h
        cases h2
        exact ⟨(sigs_len (sign_pre h1).2).1, sign_len h1⟩
theorem lexL_nil (a : Nat) : lexL a [] = .inr [⟨5, a, [], 0⟩] := by rw [lexL]
theorem lexL_blank (a : Nat) (l : List UInt8) : lexL a (32 :: l) = lexL (a + 1) l := by rw [lexL, if_pos rfl]
theorem lexL_bad {a : Nat} {b : UInt8} {l : List UInt8} (hb : b ≠ 32) (h : nextL (b :: l) = none) : lexL a (b :: l) = .inl a := by
  rw [lexL, if_neg hb, h]
theorem lexL_tok {a : Nat} {b : UInt8} {l : List UInt8} (hb : b ≠ 32) {t : Tk} {n : Nat} (h : nextL (b :: l) = some (t, n)) : lexL a (b :: l) = (match lexL (a + n) ((b :: l).drop n) with | .inl e => .inl e | .inr r => .inr (t.put a :: r)) := by
  rw [lexL, if_neg hb, h]
  have := next_le h
  obtain ⟨m, rfl⟩ : ∃ m, n = m + 1 := ⟨n - 1, by omega⟩
  rfl
end Go.Den
