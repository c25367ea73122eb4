/- Tokens told as text are the same tokens. -/
import Derived.Test.YtbkdoeghgdbjlaaDoorLexQ
import Derived.Test.YtbkdoeghgdbjlaaDoorRepL
set_option linter.unusedVariables false
set_option linter.unusedSimpArgs false
namespace Go.Den
open Go Go.Proofs
def telT (t : Tk) : List UInt8 := if t.kind = 1 then texS t.num else if t.kind = 2 then quoL t.text else t.text
def goodT (t : Tk) : Prop := (1 ≤ t.kind ∧ t.kind ≤ 4) ∧ (∃ b l, telT t = b :: l ∧ b ≠ 32) ∧ ∀ q, sep q → nextL (telT t ++ q) = some (t.put 0, (telT t).length)
theorem isD_rng {b : UInt8} (h : isD b = true) : 48 ≤ b.toNat ∧ b.toNat ≤ 57 := by unfold isD at h; simpa using h
theorem runD_all {m : Nat} {w q : List UInt8} (hw : w.all isD = true) (hm : w.length ≤ m) (hq : m = w.length ∨ isDp q 0 = false) : runD m (w ++ q) = w.length := by
  induction w generalizing m with
  | nil =>
    rcases m with _ | m
    · rfl
    · rcases hq with h | h
      · simp at h
      · have := runD_step m q 0
        rw [List.drop_zero, if_neg (by rw [h]; decide)] at this
        exact this
  | cons b w ih =>
    rw [List.all_cons, Bool.and_eq_true] at hw
    obtain ⟨m, rfl⟩ : ∃ m', m = m' + 1 := ⟨m - 1, by simp at hm; omega⟩
    rw [List.cons_append, runD, if_pos hw.1, ih hw.2 (by simp at hm; omega) (by
      rcases hq with h | h
      · left; simp at h; omega
      · exact Or.inr h)]
    simp; omega
theorem sep_d0 {q : List UInt8} (hq : sep q) : isDp q 0 = false := by
  have := sep_dig hq (p := [])
  exact this
theorem leadn_str {w f q : List UInt8} (hw : w.all isD = true) (hw0 : w ≠ []) (hwl : w.length < 30) (hf : f.all isD = true) (hfl : f.length ≤ 4) (hq : sep q) : leadn (strD w f ++ q) = (strD w f).length := by
  have hp : 0 < w.length := List.length_pos_iff.2 hw0
  unfold leadn strD
  dsimp only
  by_cases h0 : f = []
  · rw [if_pos h0, List.append_nil, runD_all hw (by omega) (Or.inr (sep_d0 hq))]
    exact if_neg (fun hh => absurd hh.2.1 (sep_head hq (by decide)))
  · rw [if_neg h0, List.append_assoc, List.cons_append, runD_all hw (by omega) (Or.inr rfl)]
    have e1 : (w ++ 46 :: (f ++ q)).drop (w.length + 1) = f ++ q := by
      rw [← List.drop_drop, List.drop_left]; rfl
    have hd : isDp (w ++ 46 :: (f ++ q)) (w.length + 1) = true := by
      unfold isDp
      rw [e1]
      rcases f with _ | ⟨c, f⟩
      · exact absurd rfl h0
      · rw [List.all_cons, Bool.and_eq_true] at hf
        exact hf.1
    rw [if_pos ⟨hp, by rw [List.drop_left]; rfl, hd⟩, e1, runD_all hf hfl (Or.inr (sep_d0 hq))]
    simp; omega
theorem good_num {x : Int} (hx : May x) (h0 : 0 ≤ x) : goodT ⟨1, 0, [], x⟩ := by
  have e : telT ⟨1, 0, [], x⟩ = strD (Lib.decDigits (x.natAbs / 10000)) (fracL 4 (x.natAbs % 10000)) := by
    unfold telT texS
    rw [if_pos rfl, if_pos hx, tex_str, if_neg (show ¬ x < 0 by omega), List.nil_append]
  have hw := dd_all (x.natAbs / 10000)
  have hw0 := dd_ne (x.natAbs / 10000)
  have hl := dd_len16 hx hx.i
  obtain ⟨b, l, hb⟩ : ∃ b l, Lib.decDigits (x.natAbs / 10000) = b :: l := by
    cases hh : Lib.decDigits (x.natAbs / 10000) with
    | nil => exact absurd hh hw0
    | cons b l => exact ⟨b, l, rfl⟩
  have hbd : isD b = true := by rw [hb, List.all_cons, Bool.and_eq_true] at hw; exact hw.1
  have hr := isD_rng hbd
  have e2 : strD (Lib.decDigits (x.natAbs / 10000)) (fracL 4 (x.natAbs % 10000)) = b :: (l ++ if fracL 4 (x.natAbs % 10000) = [] then [] else 46 :: fracL 4 (x.natAbs % 10000)) := by
    unfold strD
    rw [hb, List.cons_append]
  refine ⟨⟨by simp, by simp⟩, ⟨b, _, e.trans e2, fun h => by rw [h] at hr; exact absurd hr.1 (by decide)⟩, fun q hq => ?_⟩
  have hln := leadn_str hw hw0 (by omega) (frac_all 4 (x.natAbs % 10000) (by omega)) (frac_len 4 (x.natAbs % 10000)) hq
  have hrd : readL (strD (Lib.decDigits (x.natAbs / 10000)) (fracL 4 (x.natAbs % 10000))) = (x, true) := by
    have := read_tex hx hx.i
    rw [tex_str, if_neg (by omega), List.nil_append] at this
    exact this
  have hld : leadL (strD (Lib.decDigits (x.natAbs / 10000)) (fracL 4 (x.natAbs % 10000)) ++ q) = (x, ((strD (Lib.decDigits (x.natAbs / 10000)) (fracL 4 (x.natAbs % 10000))).length : Int), true) := by
    unfold leadL
    rw [hln, List.take_left, hrd]
    exact if_pos rfl
  rw [e]
  generalize hs : strD (Lib.decDigits (x.natAbs / 10000)) (fracL 4 (x.natAbs % 10000)) = s at *
  rw [e2] at hld hln ⊢
  rw [List.cons_append] at hld hln ⊢
  rw [nextL, if_pos hbd, hld, if_pos rfl, hln]
  rfl
theorem str_dbl : ∀ (l q : List UInt8), l.all plainB = true → sep q → strL (dblL l ++ (34 :: q)) = some (l, (dblL l).length + 1)
  | [], q, _, hq => by
    rw [dblL, List.nil_append]
    rcases hq with rfl | ⟨r, rfl⟩
    · rfl
    · rw [strL, if_neg (by decide), if_pos rfl, if_neg (by decide)]; rfl
  | b :: l, q, h, hq => by
    rw [List.all_cons, Bool.and_eq_true] at h
    have ih := str_dbl l q h.2 hq
    by_cases hb : b = 34
    · subst hb
      rw [dblL, if_pos rfl, List.cons_append, List.cons_append, strL, if_neg (by decide), if_pos rfl, if_pos rfl, ih]
      simp
    · rw [dblL, if_neg hb, List.cons_append]
      obtain ⟨c, m, hc⟩ : ∃ c m, dblL l ++ (34 :: q) = c :: m := by
        cases hh : dblL l ++ (34 :: q) with
        | nil => simp at hh
        | cons c m => exact ⟨c, m, rfl⟩
      rw [hc, strL, if_neg (by rw [h.1]; decide), if_neg hb, ← hc, ih]
      simp
theorem strL_plain : ∀ (l : List UInt8) (r : List UInt8 × Nat), strL l = some r → r.1.all plainB = true
  | [], r, h => by rw [strL] at h; cases h
  | [b], r, h => by
    rw [strL] at h
    split at h
    · cases h
    · split at h
      · cases h; rfl
      · cases h
  | b :: c :: l, r, h => by
    rw [strL] at h
    split at h
    · cases h
    · rename_i hb
      split at h
      · split at h
        · obtain ⟨r', h1, rfl⟩ := Option.map_eq_some_iff.1 h
          have := strL_plain l r' h1
          rw [List.all_cons, this]; rfl
        · cases h; rfl
      · obtain ⟨r', h1, rfl⟩ := Option.map_eq_some_iff.1 h
        have := strL_plain (c :: l) r' h1
        rw [List.all_cons, this, show plainB b = true by simpa using hb]; rfl
theorem good_str {l : List UInt8} (h : l.all plainB = true) : goodT ⟨2, 0, l, 0⟩ := by
  refine ⟨⟨by simp, by simp⟩, ⟨34, _, rfl, by decide⟩, fun q hq => ?_⟩
  show nextL (quoL l ++ q) = some (⟨2, 0, l, 0⟩, (quoL l).length)
  unfold quoL
  rw [List.cons_append, nextL, if_neg (by decide), if_pos rfl, List.append_assoc, List.singleton_append, str_dbl l q h hq]
  simp
theorem good_next {b : UInt8} {l : List UInt8} (hb : b ≠ 32) {t : Tk} {n : Nat} (h : nextL (b :: l) = some (t, n)) : goodT t := by
  have h' := h
  have hle := next_le h
  rw [nextL] at h
  by_cases h1 : isD b = true
  · rw [if_pos h1] at h
    by_cases h2 : (leadL (b :: l)).2.2 = true
    · rw [if_pos h2] at h
      have e : t = ⟨1, 0, [], (leadL (b :: l)).1⟩ := by injection h with h; injection h with h; exact h.symm
      subst e
      have hln := leadn_le (b :: l)
      have hlp := leadn_pos (l := l) h1
      unfold leadL at h2 ⊢
      by_cases h3 : (readL ((b :: l).take (leadn (b :: l)))).2 = true
      · rw [if_pos h3] at h2 ⊢
        refine good_num (read_ok.2 h3) ?_
        dsimp only
        unfold readL at h3 ⊢
        by_cases h4 : ((b :: l).take (leadn (b :: l))).length ≤ 40 ∧ rightL (cutL (bodyL ((b :: l).take (leadn (b :: l)))))
        · rw [if_pos h4]
          have hm : minusL ((b :: l).take (leadn (b :: l))) = false := by
            obtain ⟨m, hm⟩ : ∃ m, leadn (b :: l) = m + 1 := ⟨leadn (b :: l) - 1, by omega⟩
            rw [hm, List.take_succ_cons]
            rw [(minus_eq b _).1]
            have := isD_rng h1
            rw [beq_eq_false_iff_ne]
            omega
          rw [hm, if_neg (by decide)]
          exact Int.natCast_nonneg _
        · rw [if_neg h4] at h3; cases h3
      · rw [if_neg h3] at h2; cases h2
    · rw [if_neg h2] at h; cases h
  · rw [if_neg h1] at h
    by_cases h2 : b = 34
    · rw [if_pos h2] at h
      obtain ⟨r, h3, h4⟩ := Option.map_eq_some_iff.1 h
      cases h4
      exact good_str (strL_plain l r h3)
    · rw [if_neg h2] at h
      by_cases h3 : uppB b = true
      · rw [if_pos h3] at h
        cases h
        refine ⟨⟨by simp, by simp⟩, ⟨b, _, rfl, hb⟩, fun q hq => ?_⟩
        have e : b :: l = (b :: l.take (runW l)) ++ l.drop (runW l) := by rw [List.cons_append, List.take_append_drop]
        rw [e] at h'
        have hl := runW_le l
        have hlen : (b :: l.take (runW l)).length = runW l + 1 := by simp; omega
        have := next_sep hq _ _ h' (by rw [hlen]; exact Nat.le_refl _)
        show nextL ((b :: l.take (runW l)) ++ q) = some (_, (b :: l.take (runW l)).length)
        rw [this, hlen]
        rfl
      · rw [if_neg h3] at h
        obtain ⟨r, h4, h5⟩ := Option.map_eq_some_iff.1 h
        cases h5
        have hp := sign_pre h4
        have hlr := sigs_len hp.2
        obtain ⟨z, hz⟩ := List.isPrefixOf_iff_prefix.1 hp.1
        rw [← hz] at h'
        have := fun q hq => next_sep (q := q) hq _ _ h' (Nat.le_refl _)
        rcases r with _ | ⟨c, r⟩
        · simp at hlr
        · rw [List.cons_append] at hz
          injection hz with hz1 hz2
          subst hz1
          exact ⟨⟨by simp, by simp⟩, ⟨c, r, rfl, hb⟩, this⟩
/-- Tokens, one behind the other, with blanks between. -/
def jnT : List Tk → List UInt8
  | [] => []
  | [t] => telT t
  | t :: u :: l => telT t ++ 32 :: jnT (u :: l)
def sameT (a b : Tk) : Prop := a.kind = b.kind ∧ a.text = b.text ∧ a.num = b.num
theorem lex_form (N : Nat) : ∀ (a : Nat) (s : List UInt8) (l : List Tk), s.length ≤ N → lexL a s = .inr l → ∃ ts, l = ts ++ [⟨5, a + s.length, [], 0⟩] ∧ ∀ t ∈ ts, goodT (t.put 0) := by
  induction N with
  | zero =>
    intro a s l h e
    obtain rfl : s = [] := List.eq_nil_of_length_eq_zero (by omega)
    rw [lexL_nil] at e
    cases e
    exact ⟨[], rfl, fun t ht => by cases ht⟩
  | succ N ih =>
    intro a s l h e
    rcases s with _ | ⟨b, s⟩
    · rw [lexL_nil] at e
      cases e
      exact ⟨[], rfl, fun t ht => by cases ht⟩
    · simp at h
      by_cases hb : b = 32
      · subst hb
        rw [lexL_blank] at e
        obtain ⟨ts, h1, h2⟩ := ih (a + 1) s l h e
        exact ⟨ts, by rw [h1, List.length_cons, show a + 1 + s.length = a + (s.length + 1) by omega], h2⟩
      · cases hn : nextL (b :: s) with
        | none => rw [lexL_bad hb hn] at e; cases e
        | some x =>
          obtain ⟨t', n⟩ := x
          have hle := next_le hn
          rw [lexL_tok hb hn] at e
          cases hr : lexL (a + n) ((b :: s).drop n) with
          | inl z => rw [hr] at e; cases e
          | inr r =>
            rw [hr] at e
            cases e
            obtain ⟨ts, h1, h2⟩ := ih (a + n) ((b :: s).drop n) r (by simp; omega) hr
            refine ⟨t'.put a :: ts, ?_, ?_⟩
            · rw [h1, List.length_drop, show a + n + ((b :: s).length - n) = a + (b :: s).length by omega]; rfl
            · intro t ht
              rcases List.mem_cons.1 ht with rfl | ht
              · have g := good_next hb hn
                obtain ⟨g1, g2, g3⟩ := g
                exact ⟨g1, g2, g3⟩
              · exact h2 t ht
theorem good_put {t : Tk} (h : goodT (t.put 0)) : goodT t := h
/-- Tokens told are read again. -/
theorem lex_back : ∀ (ts : List Tk) (a : Nat), (∀ t ∈ ts, goodT t) → ∃ us, lexL a (jnT ts) = .inr (us ++ [⟨5, a + (jnT ts).length, [], 0⟩]) ∧ us.map (fun t => t.put 0) = ts.map (fun t => t.put 0)
  | [], a, _ => ⟨[], by rw [jnT, lexL_nil]; rfl, rfl⟩
  | [t], a, h => by
    obtain ⟨_, ⟨b, l, e, hb⟩, h3⟩ := h t List.mem_cons_self
    have h3 := h3 [] sep_nil
    refine ⟨[t.put a], ?_, rfl⟩
    rw [jnT, e]
    rw [List.append_nil, e] at h3
    rw [lexL_tok hb h3, List.drop_length, lexL_nil]
    rfl
  | t :: u :: l, a, h => by
    obtain ⟨_, ⟨b, m, e, hb⟩, h3⟩ := h t List.mem_cons_self
    have h3 := h3 (32 :: jnT (u :: l)) (sep_cons _)
    obtain ⟨us, e1, e2⟩ := lex_back (u :: l) (a + (telT t).length + 1) (fun x hx => h x (List.mem_cons_of_mem _ hx))
    refine ⟨t.put a :: us, ?_, by rw [List.map_cons, e2]; rfl⟩
    have hd : (telT t ++ 32 :: jnT (u :: l)).drop (telT t).length = 32 :: jnT (u :: l) := List.drop_left
    rw [jnT]
    have hlen : (telT t ++ 32 :: jnT (u :: l)).length = (telT t).length + 1 + (jnT (u :: l)).length := by simp; omega
    rw [hlen]
    generalize hw : telT t = w at *
    subst e
    rw [List.cons_append] at h3 hd ⊢
    rw [lexL_tok hb h3, hd, lexL_blank, e1]
    have e9 : a + (b :: m).length + 1 + (jnT (u :: l)).length = a + ((b :: m).length + 1 + (jnT (u :: l)).length) := by omega
    rw [e9]
    rfl
end Go.Den
