/- Tokens: what stands behind a blank changes nothing; tokens told are read again; blanks put ahead of one. -/
import Derived.Test.YtbkdoeghgdbjlaaDoorLexP
set_option linter.unusedVariables false
set_option linter.unusedSimpArgs false
namespace Go.Den
open Go Go.Proofs
def sep (q : List UInt8) : Prop := q = [] ∨ ∃ r, q = 32 :: r
theorem sep_nil : sep [] := Or.inl rfl
theorem sep_cons (r : List UInt8) : sep (32 :: r) := Or.inr ⟨r, rfl⟩
theorem runD_sep {q : List UInt8} (hq : sep q) (q0 : List UInt8) : ∀ (m : Nat) (p : List UInt8), runD m (p ++ q0) ≤ p.length → runD m (p ++ q) = runD m (p ++ q0)
  | 0, p, _ => by simp [runD]
  | m + 1, [], h => by
    have h0 : runD (m + 1) ([] ++ q0) = 0 := Nat.le_zero.1 h
    rw [h0]
    rcases hq with rfl | ⟨r, rfl⟩
    · rfl
    · rw [List.nil_append, runD, if_neg (by decide)]
  | m + 1, c :: p, h => by
    rw [List.cons_append, runD] at h ⊢
    rw [List.cons_append, runD]
    by_cases hc : isD c = true
    · rw [if_pos hc] at h ⊢
      rw [if_pos hc, runD_sep hq q0 m p (by simp at h; omega)]
    · rw [if_neg hc, if_neg hc]
theorem drop_app {p q : List UInt8} {n : Nat} (h : n ≤ p.length) : (p ++ q).drop n = p.drop n ++ q := by rw [List.drop_append_of_le_length h]
theorem take_app {p q : List UInt8} {n : Nat} (h : n ≤ p.length) : (p ++ q).take n = p.take n := by rw [List.take_append_of_le_length h]
theorem isDp_app {p q : List UInt8} {n : Nat} (h : n < p.length) : isDp (p ++ q) n = isD p[n] := by
  unfold isDp
  rw [drop_app (by omega), List.drop_eq_getElem_cons h]; rfl
theorem head_app {p q : List UInt8} {n : Nat} (h : n < p.length) : ((p ++ q).drop n).head? = some p[n] := by
  rw [drop_app (by omega), List.drop_eq_getElem_cons h]; rfl
theorem sep_head {q : List UInt8} (hq : sep q) {p : List UInt8} {b : UInt8} (hb : b ≠ 32) : ((p ++ q).drop p.length).head? ≠ some b := by
  rw [List.drop_left]
  rcases hq with rfl | ⟨r, rfl⟩
  · simp
  · intro h; exact hb (Option.some.inj h).symm
theorem sep_dig {q : List UInt8} (hq : sep q) {p : List UInt8} : isDp (p ++ q) p.length = false := by
  unfold isDp
  rw [List.drop_left]
  rcases hq with rfl | ⟨r, rfl⟩
  · rfl
  · rfl
theorem isDp_pos {l : List UInt8} {i : Nat} (h : isDp l i = true) (m : Nat) : 0 < runD (m + 1) (l.drop i) := by
  rw [runD_step, if_pos h]; omega
theorem leadn_sep {q : List UInt8} (hq : sep q) (q0 p : List UInt8) (h : leadn (p ++ q0) ≤ p.length) : leadn (p ++ q) = leadn (p ++ q0) := by
  unfold leadn at h ⊢
  dsimp only at h ⊢
  by_cases hc : 0 < runD 30 (p ++ q0) ∧ ((p ++ q0).drop (runD 30 (p ++ q0))).head? = some 46 ∧ isDp (p ++ q0) (runD 30 (p ++ q0) + 1) = true
  · rw [if_pos hc] at h ⊢
    have e := runD_sep hq q0 30 p (by omega)
    rw [e]
    obtain ⟨h1, h2, h3⟩ := hc
    have hp : 0 < runD 4 ((p ++ q0).drop (runD 30 (p ++ q0) + 1)) := isDp_pos h3 3
    generalize runD 30 (p ++ q0) = n at *
    have hn : n + 1 < p.length := by omega
    rw [head_app (show n < p.length by omega)] at h2
    rw [isDp_app hn] at h3
    rw [if_pos ⟨h1, by rw [head_app (show n < p.length by omega)]; exact h2, by rw [isDp_app hn]; exact h3⟩]
    rw [drop_app (show n + 1 ≤ p.length by omega)] at h ⊢
    rw [drop_app (show n + 1 ≤ p.length by omega), runD_sep hq q0 4 (p.drop (n + 1)) (by rw [List.length_drop]; omega)]
  · rw [if_neg hc] at h ⊢
    have e := runD_sep hq q0 30 p h
    rw [e]
    generalize runD 30 (p ++ q0) = n at *
    refine if_neg (fun hh => hc ⟨hh.1, ?_⟩)
    obtain ⟨h1, h2, h3⟩ := hh
    have hn : n < p.length := by
      rcases Nat.lt_or_ge n p.length with hn | hn
      · exact hn
      · obtain rfl : n = p.length := by omega
        exact absurd h2 (sep_head hq (by decide))
    have hn2 : n + 1 < p.length := by
      rcases Nat.lt_or_ge (n + 1) p.length with hn | hn
      · exact hn
      · have e : n + 1 = p.length := by omega
        rw [e, sep_dig hq] at h3
        cases h3
    rw [head_app hn] at h2
    rw [isDp_app hn2] at h3
    exact ⟨by rw [head_app hn]; exact h2, by rw [isDp_app hn2]; exact h3⟩
theorem strL_pos : ∀ (l : List UInt8) (r : List UInt8 × Nat), strL l = some r → 0 < r.2
  | [], r, h => by rw [strL] at h; cases h
  | [b], r, h => by
    rw [strL] at h
    split at h
    · cases h
    · split at h
      · cases h; simp
      · cases h
  | b :: c :: l, r, h => by
    rw [strL] at h
    split at h
    · cases h
    · split at h
      · split at h
        · obtain ⟨r', h1, rfl⟩ := Option.map_eq_some_iff.1 h
          simp
        · cases h; simp
      · obtain ⟨r', h1, rfl⟩ := Option.map_eq_some_iff.1 h
        simp
theorem strL_sep {q : List UInt8} (hq : sep q) (q0 : List UInt8) : ∀ (p : List UInt8) (r : List UInt8 × Nat), strL (p ++ q0) = some r → r.2 ≤ p.length → strL (p ++ q) = some r
  | [], r, h, hl => by have := strL_pos _ _ h; simp at hl; omega
  | [b], r, h, hl => by
    have key : plainB b = true ∧ b = 34 ∧ r = ([], 1) := by
      rcases q0 with _ | ⟨c, l⟩
      · rw [List.append_nil, strL] at h
        by_cases h1 : plainB b = false
        · rw [if_pos h1] at h; cases h
        · rw [if_neg h1] at h
          by_cases h2 : b = 34
          · rw [if_pos h2] at h; cases h
            exact ⟨by simpa using h1, h2, rfl⟩
          · rw [if_neg h2] at h; cases h
      · rw [List.cons_append, List.nil_append, strL] at h
        by_cases h1 : plainB b = false
        · rw [if_pos h1] at h; cases h
        · rw [if_neg h1] at h
          by_cases h2 : b = 34
          · rw [if_pos h2] at h
            by_cases h3 : c = 34
            · rw [if_pos h3] at h
              obtain ⟨r', h4, rfl⟩ := Option.map_eq_some_iff.1 h
              simp at hl
            · rw [if_neg h3] at h; cases h
              exact ⟨by simpa using h1, h2, rfl⟩
          · rw [if_neg h2] at h
            obtain ⟨r', h4, rfl⟩ := Option.map_eq_some_iff.1 h
            have := strL_pos _ _ h4
            simp at hl; omega
    obtain ⟨h1, rfl, rfl⟩ := key
    rcases hq with rfl | ⟨r, rfl⟩
    · rfl
    · rw [List.cons_append, List.nil_append, strL, h1]; rfl
  | b :: c :: p, r, h, hl => by
    rw [List.cons_append, List.cons_append, strL] at h ⊢
    by_cases h1 : plainB b = false
    · rw [if_pos h1] at h; cases h
    · rw [if_neg h1] at h ⊢
      by_cases h2 : b = 34
      · rw [if_pos h2] at h ⊢
        by_cases h3 : c = 34
        · rw [if_pos h3] at h ⊢
          obtain ⟨r', h4, rfl⟩ := Option.map_eq_some_iff.1 h
          rw [strL_sep hq q0 p r' h4 (by simp at hl; omega)]
          rfl
        · rw [if_neg h3] at h ⊢
          exact h
      · rw [if_neg h2] at h ⊢
        obtain ⟨r', h4, rfl⟩ := Option.map_eq_some_iff.1 h
        have := strL_sep hq q0 (c :: p) r' h4 (by simp at hl ⊢; omega)
        rw [List.cons_append] at this
        rw [this]
        rfl
theorem runW_sep {q : List UInt8} (hq : sep q) (q0 : List UInt8) : ∀ p : List UInt8, runW (p ++ q0) ≤ p.length → runW (p ++ q) = runW (p ++ q0)
  | [], h => by
    have h0 : runW ([] ++ q0) = 0 := Nat.le_zero.1 h
    rw [h0]
    rcases hq with rfl | ⟨r, rfl⟩
    · rfl
    · rw [List.nil_append, runW, if_neg (by decide)]
  | c :: p, h => by
    rw [List.cons_append, runW] at h ⊢
    rw [List.cons_append, runW]
    by_cases hc : wrdB c = true
    · rw [if_pos hc] at h ⊢
      rw [if_pos hc, runW_sep hq q0 p (by simp at h; omega)]
    · rw [if_neg hc, if_neg hc]
theorem find_congr {A C : List UInt8 → Bool} {t : List UInt8} : ∀ L : List (List UInt8), (∀ x ∈ L, A x = true → C x = true) → L.find? C = some t → A t = true → L.find? A = some t
  | [], _, h, _ => by cases h
  | x :: L, hs, h, ha => by
    rw [List.find?_cons] at h ⊢
    cases hc : C x
    · rw [hc] at h
      have : A x = false := by
        cases hx : A x
        · rfl
        · rw [hs x List.mem_cons_self hx] at hc; cases hc
      rw [this]
      exact find_congr L (fun y hy => hs y (List.mem_cons_of_mem _ hy)) h ha
    · rw [hc] at h
      cases h
      rw [ha]
theorem pre_sep {q : List UInt8} (hq : sep q) : ∀ (t p : List UInt8), (32 : UInt8) ∉ t → t.isPrefixOf (p ++ q) = true → t.isPrefixOf p = true
  | [], p, _, _ => by simp
  | b :: t, [], h0, h => by
    rcases hq with rfl | ⟨r, rfl⟩
    · simp [List.isPrefixOf] at h
    · simp [List.isPrefixOf] at h
      exact absurd h.1 (fun e => h0 (by rw [e]; exact List.mem_cons_self))
  | b :: t, c :: p, h0, h => by
    simp only [List.cons_append, List.isPrefixOf, Bool.and_eq_true] at h ⊢
    exact ⟨h.1, pre_sep hq t p (fun hh => h0 (List.mem_cons_of_mem _ hh)) h.2⟩
theorem pre_app {t p q : List UInt8} (h : t.isPrefixOf p = true) : t.isPrefixOf (p ++ q) = true := by
  rw [List.isPrefixOf_iff_prefix] at h ⊢
  exact h.trans (List.prefix_append p q)
theorem sigs_blank {t : List UInt8} (h : t ∈ sigs) : (32 : UInt8) ∉ t := by
  have : ∀ t ∈ sigs, (32 : UInt8) ∉ t := by decide
  exact this t h
theorem pre_short {t p q : List UInt8} (h : t.isPrefixOf (p ++ q) = true) (hl : t.length ≤ p.length) : t.isPrefixOf p = true := by
  rw [List.isPrefixOf_iff_prefix] at h ⊢
  exact List.prefix_of_prefix_length_le h (List.prefix_append p q) hl
theorem sign_sep {q : List UInt8} (hq : sep q) (q0 p t : List UInt8) (h : signL (p ++ q0) = some t) (hl : t.length ≤ p.length) : signL (p ++ q) = some t := by
  refine find_congr sigs (fun x hx ha => pre_app (pre_sep hq x p (sigs_blank hx) ha)) h ?_
  exact pre_app (pre_short (sign_pre h).1 hl)
theorem next_sep {q : List UInt8} (hq : sep q) (q0 p : List UInt8) {t : Tk} {n : Nat} (h : nextL (p ++ q0) = some (t, n)) (hl : n ≤ p.length) : nextL (p ++ q) = some (t, n) := by
  have hn := (next_le h).1
  rcases p with _ | ⟨b, p⟩
  · simp at hl; omega
  rw [List.cons_append, nextL] at h ⊢
  by_cases h1 : isD b = true
  · rw [if_pos h1] at h ⊢
    by_cases h2 : (leadL (b :: (p ++ q0))).2.2 = true
    · rw [if_pos h2] at h
      have e : leadn (b :: (p ++ q0)) = n := by injection h with h; injection h
      have e2 : leadn ((b :: p) ++ q) = leadn ((b :: p) ++ q0) := leadn_sep hq q0 (b :: p) (by rw [List.cons_append, e]; exact hl)
      rw [List.cons_append, List.cons_append, e] at e2
      have e3 : leadL (b :: (p ++ q)) = leadL (b :: (p ++ q0)) := by
        unfold leadL
        rw [e2, e, ← List.cons_append, ← List.cons_append, take_app hl, take_app hl]
      rw [e3, if_pos h2, e2, ← e]
      rw [e] at h ⊢
      exact h
    · rw [if_neg h2] at h; cases h
  · rw [if_neg h1] at h ⊢
    by_cases h2 : b = 34
    · rw [if_pos h2] at h ⊢
      obtain ⟨r, h3, h4⟩ := Option.map_eq_some_iff.1 h
      cases h4
      rw [strL_sep hq q0 p r h3 (by simp at hl; omega)]
      rfl
    · rw [if_neg h2] at h ⊢
      by_cases h3 : uppB b = true
      · rw [if_pos h3] at h ⊢
        have e : runW (p ++ q0) + 1 = n := by injection h with h; injection h
        simp at hl
        have e2 := runW_sep hq q0 p (by omega)
        rw [e2, take_app (by omega)]
        rw [take_app (by omega)] at h
        exact h
      · rw [if_neg h3] at h ⊢
        obtain ⟨r, h4, h5⟩ := Option.map_eq_some_iff.1 h
        cases h5
        have := sign_sep hq q0 (b :: p) r h4 hl
        rw [List.cons_append] at this
        rw [this]
        rfl
/-- The tokens moved. -/
def shiftT (m : Nat) : Nat ⊕ List Tk → Nat ⊕ List Tk
  | .inl e => .inl (e + m)
  | .inr l => .inr (l.map fun t => t.put (t.loc + m))
theorem lex_shift (m : Nat) (s : List UInt8) : ∀ (N a : Nat) (s : List UInt8), s.length ≤ N → lexL (a + m) s = shiftT m (lexL a s) := by
  intro N
  induction N with
  | zero =>
    intro a s h
    obtain rfl : s = [] := List.eq_nil_of_length_eq_zero (by omega)
    rw [lexL_nil, lexL_nil]; rfl
  | succ N ih =>
    intro a s h
    rcases s with _ | ⟨b, l⟩
    · rw [lexL_nil, lexL_nil]; rfl
    · simp at h
      by_cases hb : b = 32
      · subst hb
        rw [lexL_blank, lexL_blank, show a + m + 1 = a + 1 + m by omega]
        exact ih (a + 1) l h
      · cases hn : nextL (b :: l) with
        | none => rw [lexL_bad hb hn, lexL_bad hb hn]; rfl
        | some x =>
          obtain ⟨t, n⟩ := x
          have hle := next_le hn
          rw [lexL_tok hb hn, lexL_tok hb hn, show a + m + n = a + n + m by omega, ih (a + n) ((b :: l).drop n) (by simp; omega)]
          cases lexL (a + n) ((b :: l).drop n) with
          | inl e => rfl
          | inr r => rfl
theorem lex_loc (N : Nat) : ∀ (a : Nat) (s : List UInt8) (l : List Tk), s.length ≤ N → lexL a s = .inr l → ∀ t ∈ l, a ≤ t.loc ∧ t.loc ≤ a + s.length := by
  induction N with
  | zero =>
    intro a s l h e t ht
    obtain rfl : s = [] := List.eq_nil_of_length_eq_zero (by omega)
    rw [lexL_nil] at e
    cases e
    simp at ht
    subst ht; simp
  | succ N ih =>
    intro a s l h e t ht
    rcases s with _ | ⟨b, s⟩
    · rw [lexL_nil] at e
      cases e
      simp at ht
      subst ht; simp
    · simp at h
      by_cases hb : b = 32
      · subst hb
        rw [lexL_blank] at e
        have := ih (a + 1) s l h e t ht
        simp; omega
      · cases hn : nextL (b :: s) with
        | none => rw [lexL_bad hb hn] at e; cases e
        | some x =>
          obtain ⟨t', n⟩ := x
          have hle := next_le hn
          rw [lexL_tok hb hn] at e
          cases hr : lexL (a + n) ((b :: s).drop n) with
          | inl z => rw [hr] at e; cases e
          | inr r =>
            rw [hr] at e
            cases e
            rcases List.mem_cons.1 ht with rfl | ht
            · exact ⟨Nat.le_refl _, Nat.le_add_right _ _⟩
            · have := ih (a + n) ((b :: s).drop n) r (by simp; omega) hr t ht
              rw [List.length_drop] at this
              simp at this hle ⊢; omega
theorem lex_count (N : Nat) : ∀ (a : Nat) (s : List UInt8) (l : List Tk), s.length ≤ N → lexL a s = .inr l → l.length ≤ s.length + 1 := by
  induction N with
  | zero =>
    intro a s l h e
    obtain rfl : s = [] := List.eq_nil_of_length_eq_zero (by omega)
    rw [lexL_nil] at e
    cases e; simp
  | succ N ih =>
    intro a s l h e
    rcases s with _ | ⟨b, s⟩
    · rw [lexL_nil] at e
      cases e; simp
    · simp at h
      by_cases hb : b = 32
      · subst hb
        rw [lexL_blank] at e
        have := ih (a + 1) s l h e
        simp; omega
      · cases hn : nextL (b :: s) with
        | none => rw [lexL_bad hb hn] at e; cases e
        | some x =>
          obtain ⟨t', n⟩ := x
          have hle := next_le hn
          rw [lexL_tok hb hn] at e
          cases hr : lexL (a + n) ((b :: s).drop n) with
          | inl z => rw [hr] at e; cases e
          | inr r =>
            rw [hr] at e
            cases e
            have := ih (a + n) ((b :: s).drop n) r (by simp; omega) hr
            rw [List.length_drop] at this
            simp at this hle ⊢; omega
theorem lex_blanks (m : Nat) (s : List UInt8) : ∀ a, lexL a (List.replicate m 32 ++ s) = lexL (a + m) s := by
  induction m with
  | zero => intro a; rfl
  | succ m ih =>
    intro a
    rw [List.replicate_succ, List.cons_append, lexL_blank, ih, show a + 1 + m = a + (m + 1) by omega]
/-- The tokens from the k-th one on moved. -/
def movedT (m : Nat) : Nat → List Tk → List Tk
  | 0, l => l.map fun t => t.put (t.loc + m)
  | k + 1, [] => []
  | k + 1, t :: l => t :: movedT m k l
theorem movedT_map (m : Nat) : ∀ (k : Nat) (l : List Tk), (movedT m k l).map (fun t => t.put 0) = l.map (fun t => t.put 0)
  | 0, l => by
    unfold movedT
    rw [List.map_map]; rfl
  | k + 1, [] => rfl
  | k + 1, t :: l => by
    show t.put 0 :: (movedT m k l).map (fun t => t.put 0) = _
    rw [movedT_map m k l]; rfl
theorem movedT_len (m k : Nat) (l : List Tk) : (movedT m k l).length = l.length := by
  have := congrArg List.length (movedT_map m k l)
  simpa using this
theorem movedT_get (m : Nat) : ∀ (k : Nat) (l : List Tk) (i : Nat) (h : i < l.length) (h' : i < (movedT m k l).length), (movedT m k l)[i].loc = if k ≤ i then l[i].loc + m else l[i].loc
  | 0, l, i, h, h' => by
    rw [if_pos (Nat.zero_le _)]
    simp only [movedT, List.getElem_map]; rfl
  | k + 1, [], i, h, h' => by simp at h
  | k + 1, t :: l, 0, h, h' => by rw [if_neg (by omega)]; rfl
  | k + 1, t :: l, i + 1, h, h' => by
    have h1 : i < l.length := by simpa using h
    have h2 : i < (movedT m k l).length := by rw [movedT_len]; exact h1
    have e : (movedT m (k + 1) (t :: l))[i + 1] = (movedT m k l)[i] := rfl
    have e2 : (t :: l)[i + 1] = l[i] := rfl
    rw [e, e2, movedT_get m k l i h1 h2]
    by_cases hk : k ≤ i
    · rw [if_pos hk, if_pos (by omega)]
    · rw [if_neg hk, if_neg (by omega)]
theorem movedT_0 : ∀ (k : Nat) (l : List Tk), movedT 0 k l = l
  | 0, l => by
    unfold movedT
    conv => rhs; rw [← List.map_id l]
    rfl
  | k + 1, [] => rfl
  | k + 1, t :: l => by
    show t :: movedT 0 k l = _
    rw [movedT_0 k l]
theorem put_self (t : Tk) : t.put t.loc = t := rfl
theorem lex_ins (m : Nat) (hm : 0 < m) (q : List UInt8) (N : Nat) : ∀ (a : Nat) (p : List UInt8) (l : List Tk) (k : Nat) (hk : k < l.length), p.length + q.length ≤ N → lexL a (p ++ q) = .inr l → l[k].loc = a + p.length →
    lexL a (p ++ (List.replicate m 32 ++ q)) = .inr (movedT m k l) := by
  have base : ∀ (a : Nat) (l : List Tk), lexL a q = .inr l → lexL a (List.replicate m 32 ++ q) = .inr (movedT m 0 l) := by
    intro a l h
    rw [lex_blanks, lex_shift m q q.length a q (Nat.le_refl _), h]; rfl
  induction N with
  | zero =>
    intro a p l k hk h e hl
    obtain rfl : p = [] := List.eq_nil_of_length_eq_zero (by omega)
    obtain rfl : q = [] := List.eq_nil_of_length_eq_zero (by omega)
    have e2 := e
    rw [List.nil_append, lexL_nil] at e2
    cases e2
    obtain rfl : k = 0 := by simp at hk; omega
    exact base a _ e
  | succ N ih =>
    intro a p l k hk h e hl
    rcases p with _ | ⟨b, p⟩
    · rw [List.nil_append] at e ⊢
      rcases k with _ | k
      · exact base a l e
      · exfalso
        rcases q with _ | ⟨b, q⟩
        · rw [lexL_nil] at e
          cases e
          simp at hk
        · by_cases hb : b = 32
          · subst hb
            rw [lexL_blank] at e
            have := lex_loc _ _ _ _ (Nat.le_refl _) e l[k + 1] (List.getElem_mem hk)
            simp at hl this; omega
          · cases hn : nextL (b :: q) with
            | none => rw [lexL_bad hb hn] at e; cases e
            | some x =>
              obtain ⟨t', n⟩ := x
              have hle := next_le hn
              rw [lexL_tok hb hn] at e
              cases hr : lexL (a + n) ((b :: q).drop n) with
              | inl z => rw [hr] at e; cases e
              | inr r =>
                rw [hr] at e
                cases e
                have hk3 : k < r.length := by simpa using hk
                have := lex_loc _ _ _ _ (Nat.le_refl _) hr r[k] (List.getElem_mem hk3)
                simp at hl this; omega
    · by_cases hb : b = 32
      · subst hb
        rw [List.cons_append, lexL_blank] at e ⊢
        exact ih (a + 1) p l k hk (by simp at h; omega) e (by simp at hl; omega)
      · cases hn : nextL (b :: (p ++ q)) with
        | none => rw [List.cons_append, lexL_bad hb hn] at e; cases e
        | some x =>
          obtain ⟨t', n⟩ := x
          have hle := next_le hn
          rw [List.cons_append, lexL_tok hb hn] at e
          cases hr : lexL (a + n) ((b :: (p ++ q)).drop n) with
          | inl z => rw [hr] at e; cases e
          | inr r =>
            rw [hr] at e
            cases e
            rcases k with _ | k
            · simp [Tk.put] at hl
            · have hk2 : k < r.length := by simpa using hk
              have hl2 : r[k].loc = a + (p.length + 1) := by simpa using hl
              have hloc := lex_loc _ _ _ _ (Nat.le_refl _) hr r[k] (List.getElem_mem hk2)
              have hnp : n ≤ (b :: p).length := by simp; omega
              have hs : sep (List.replicate m 32 ++ q) := by
                obtain ⟨m', rfl⟩ : ∃ m', m = m' + 1 := ⟨m - 1, by omega⟩
                rw [List.replicate_succ, List.cons_append]
                exact sep_cons _
              have h2 := next_sep hs q (b :: p) (by rw [List.cons_append]; exact hn) hnp
              rw [List.cons_append] at h2 ⊢
              rw [lexL_tok hb h2, ← List.cons_append, drop_app hnp]
              rw [← List.cons_append, drop_app hnp] at hr
              have := ih (a + n) ((b :: p).drop n) r k hk2 (by simp at h ⊢; omega) hr (by rw [List.length_drop]; simp at hnp ⊢; omega)
              rw [this]
              rfl
end Go.Den
