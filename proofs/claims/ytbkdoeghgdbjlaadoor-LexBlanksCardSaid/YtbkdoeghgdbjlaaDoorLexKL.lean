/- More blanks ahead of a token change nothing else: the law. -/
import Derived.Test.YtbkdoeghgdbjlaaDoorLexTL
import Derived.Test.YtbkdoeghgdbjlaaDoorTyL
set_option linter.unusedVariables false
set_option linter.unusedSimpArgs false
set_option maxRecDepth 100000
namespace Go.Den.EL
open Go Go.Proofs
theorem lexS_sh (s : List UInt8) : hasSh (.tup [(.lst 4), (.int .i64), (.int .i64)]) (lexS s) = true := by
  unfold lexS
  split
  · cases lexL 0 s <;> rfl
  · rfl
/-- The positions of the second lot. -/
theorem blanks_l (l : List Tk) (n k : Nat) (hl : l.length ≤ 100000) (hn : n ≤ 1000) (hloc : ∀ t ∈ l, t.loc ≤ 100000) (hk : k < l.length) : ∀ (d i : Nat), i + d = l.length → f4.l1a 0 (k : Int) l.length (fun i => (tp l).getD i .top) (n : Int) (movedT n k l).length (fun i => (tp (movedT n k l)).getD i .top) ((movedT n k l).length : Int) (i : Int) = some (.sc (.bool true)) := by
  have hml := movedT_len n k l
  intro d
  induction d with
  | zero =>
    intro i h
    rw [f4.l1a_eq]
    exact im (by rw [decide_eq_true_eq]; omega) (cb alive21_ev rfl rfl)
  | succ d ih =>
    intro i h
    have h1 : i < l.length := by omega
    have h2 : i < (movedT n k l).length := by omega
    have hg := movedT_get n k l i h1 h2
    have hlo := hloc l[i] (List.getElem_mem h1)
    rw [f4.l1a_eq, Int.toNat_natCast, tp_get h1, tp_get h2]
    refine ip (by rw [decide_eq_true_eq]; omega) (ip (by omega) (ip (by omega) (ip rfl (ip (by omega) (ip (by omega) (ip rfl ?_))))))
    rw [tkp_1, tkp_1, hg]
    by_cases hki : k ≤ i
    · refine ip (by rw [decide_eq_true_eq]; omega) ?_
      rw [if_pos hki, w64 (by omega) (by omega)]
      refine im (by rw [bne_iff_ne]; omega) ?_
      rw [nx h1 (by omega)]
      exact ih (i + 1) (by omega)
    · refine im (by rw [decide_eq_true_eq]; omega) ?_
      rw [if_neg hki]
      refine im (by rw [bne_iff_ne]; omega) ?_
      rw [nx h1 (by omega)]
      exact ih (i + 1) (by omega)
theorem rep_app (j : Nat) : B (List.replicate j 32) ++ (⟨#[32]⟩ : ByteArray) = B (List.replicate (j + 1) 32) := by
  rw [show (⟨#[32]⟩ : ByteArray) = B [32] from rfl, B_append, List.replicate_succ']
theorem lexBlanks_l (s : List UInt8) (l : List Tk) (n k : Nat) (hs : s.length ≤ 150) (hn : n ≤ 30) (he : lexL 0 s = .inr l) (hk : k < l.length) : ∀ (d j : Nat), j + d = n → f4.l0a 0 (B s) (k : Int) l.length (fun i => (tp l).getD i .top) (n : Int) (B (List.replicate j 32)) (n : Int) (j : Int) = some (.sc (.bool true)) := by
  have hloc : ∀ t ∈ l, t.loc ≤ s.length := fun t ht => by
    have := (lex_loc s.length 0 s l (Nat.le_refl _) he t ht).2
    omega
  have hlk := hloc l[k] (List.getElem_mem hk)
  have hll : l.length ≤ s.length + 1 := lex_count s.length 0 s l (Nat.le_refl _) he
  intro d
  induction d with
  | zero =>
    intro j h
    obtain rfl : j = n := by omega
    rw [f4.l0a_eq, Int.toNat_natCast, tp_get hk, tkp_1]
    generalize hq : l[k].loc = p at *
    have ex1 : (B s).extract 0 ((p : Nat) : Int).toNat = B (s.take p) := take_ext s p
    have ex2 := ext_drop s p
    have hi : lexL 0 (s.take p ++ (List.replicate j 32 ++ s.drop p)) = .inr (movedT j k l) := by
      rcases Nat.eq_zero_or_pos j with h0 | h0
      · subst h0
        rw [movedT_0]
        show lexL 0 (s.take p ++ s.drop p) = _
        rw [List.take_append_drop, he]
      · exact lex_ins j h0 (s.drop p) ((s.take p).length + (s.drop p).length) 0 (s.take p) l k hk (Nat.le_refl _) (by rw [List.take_append_drop]; exact he) (by rw [hq, List.length_take]; omega)
    refine im (by rw [decide_eq_true_eq]; omega) (ip (by omega) (ip (by omega) (ip rfl (ip (by omega) (ip (by rw [B_size]; omega) (ip (by omega) ?_))))))
    rw [ex1, ex2]
    refine ip (by rw [B_size, B_size, List.length_replicate, List.length_take]; omega) (ip (by omega) (ip (by omega) (ip rfl (ip (by omega) (ip (Int.le_refl _) (ip (by omega) (ip (by rw [B_size]; omega) ?_)))))))
    rw [B_append, B_append, List.append_assoc]
    refine ip (by rw [B_size, B_size, List.length_append, List.length_replicate, List.length_take, List.length_drop]; omega) ?_
    have hlex := lex_ev (s.take p ++ (List.replicate j 32 ++ s.drop p))
    have hlen : (s.take p ++ (List.replicate j 32 ++ s.drop p)).length ≤ 200 := by
      simp only [List.length_append, List.length_replicate, List.length_take, List.length_drop]; omega
    unfold lexS at hlex
    rw [if_pos hlen, hi] at hlex
    refine cb hlex rfl ?_
    have hmv := moved_ev l (movedT j k l) (movedT_map j k l).symm (by omega)
    have hmv2 : D 13 [.lst 4 l.length (fun i => (tp l).getD i .top), .lst 4 (movedT j k l).length (fun i => (tp (movedT j k l)).getD i .top)] = some (.sc (.bool true)) := by
      have e1 := tp_len l
      have e2 := tp_len (movedT j k l)
      rw [← e1, ← e2]
      exact hmv
    have eo : lexR [] (.inr (movedT j k l)) = okR (movedT j k l) := rfl
    rw [eo]
    have f0 : (cel 0 (okR (movedT j k l)).parts).len = (movedT j k l).length := tp_len _
    have f1 : (cel 0 (okR (movedT j k l)).parts).at = fun i => (tp (movedT j k l)).getD i .top := rfl
    have f2 : (cel 2 (okR (movedT j k l)).parts).toInt = 0 := rfl
    rw [f0, f1, f2, hmv2]
    show f4.l1a 0 (k : Int) l.length (fun i => (tp l).getD i .top) (j : Int) (movedT j k l).length (fun i => (tp (movedT j k l)).getD i .top) ((movedT j k l).length : Int) 0 = _
    exact blanks_l l j k (by omega) (by omega) (fun t ht => by have := hloc t ht; omega) hk l.length 0 (by omega)
  | succ d ih =>
    intro j h
    rw [f4.l0a_eq]
    refine ip (by rw [decide_eq_true_eq]; omega) (ip (by rw [B_size, List.length_replicate]; omega) ?_)
    rw [rep_app, nx (i := j) (n := n) (by omega) (by omega)]
    exact ih (j + 1) (by omega)
theorem lexBlanks_D (s : List UInt8) (k : Int) (m : Nat) (hm : m ≤ 255) : D 4 [.sc (.string (B s)), .sc (.int .i64 k), .sc (.int .u8 (m : Int))] = some (.sc (.bool true)) := by
  rw [f4_eq 0]
  refine cb (lex_ev s) (lexS_sh s) ?_
  have al : ∀ (A : Option PV), ((D 12 []).bind fun r8 => if hasSh .bool r8 = true then some (PV.sc (.bool r8.toBool)) else none) = some (PV.sc (.bool true)) := fun _ => cb alive21_ev rfl rfl
  by_cases hs : s.length ≤ 150
  · have c : decide (((B s).size : Int) > 150) = false := by rw [decide_eq_false_iff_not, B_size]; omega
    rw [c]
    unfold lexS
    simp only [if_pos (show s.length ≤ 200 by omega)]
    cases he : lexL 0 s with
    | inl e => exact al none
    | inr l =>
      have eo : lexR [] (.inr l) = okR l := rfl
      rw [eo]
      have f0 : (cel 0 (okR l).parts).len = l.length := tp_len _
      have f1 : (cel 0 (okR l).parts).at = fun i => (tp l).getD i .top := rfl
      have f2 : (cel 2 (okR l).parts).toInt = 0 := rfl
      rw [f0, f1, f2]
      by_cases hk0 : k < 0
      · have c1 : decide (k < 0) = true := decide_eq_true hk0
        rw [c1]
        exact al none
      · have c1 : decide (k < 0) = false := decide_eq_false hk0
        rw [c1]
        by_cases hk1 : k ≥ (l.length : Int)
        · have c2 : decide (k ≥ (l.length : Int)) = true := decide_eq_true hk1
          rw [c2]
          exact al none
        · have c2 : decide (k ≥ (l.length : Int)) = false := decide_eq_false hk1
          rw [c2]
          obtain ⟨K, rfl⟩ : ∃ K : Nat, k = K := ⟨k.toNat, by omega⟩
          have hK : K < l.length := by omega
          have hloc := (lex_loc s.length 0 s l (Nat.le_refl _) he l[K] (List.getElem_mem hK)).2
          have d1 : (0 : Int) ≤ (K : Int) := by omega
          have d2 : (K : Int) < (l.length : Int) := by omega
          have c3 : decide ((l[K].loc : Int) > ((B s).size : Int)) = false := by rw [decide_eq_false_iff_not, B_size]; omega
          have eg : (fun i => (tp l).getD i PV.top) K = tkp l[K] := tp_get hK
          rw [Int.toNat_natCast, eg, tkp_1, c3, tkp_sh, if_pos d1, if_pos d2]
          have ew : IntKind.i64.wrap ((m : Int).tmod 31) = ((m % 31 : Nat) : Int) := by
            rw [Int.tmod_eq_emod_of_nonneg (by omega), w64 (by omega) (by omega)]; omega
          rw [ew]
          have := lexBlanks_l s l (m % 31) K hs (by omega) he hK (m % 31) 0 (by omega)
          exact this
  · have c : decide (((B s).size : Int) > 150) = true := by rw [decide_eq_true_eq, B_size]; omega
    rw [c]
    exact al none
theorem lexBlanks_law (W : World) (vs : List Value) (xs : List PV) (h : Handed Tryd.prog W [9, 3, 5] vs xs) : D 4 xs = some (.sc (.bool true)) := by
  obtain ⟨a, _, _, rfl, ha, h⟩ := handed_cons h
  obtain ⟨b, _, _, rfl, hb, h⟩ := handed_cons h
  obtain ⟨c, _, _, rfl, hc, h⟩ := handed_cons h
  obtain rfl := handed_nil h
  obtain ⟨t, rfl, _⟩ := of9 ha
  obtain ⟨k, rfl, _⟩ := of3 hb
  obtain ⟨m, rfl, hm⟩ := of5 hc
  rw [on9, on3, on5]
  obtain ⟨l, rfl⟩ := B_of t
  obtain ⟨M, rfl⟩ : ∃ M : Nat, m = M := ⟨m.toNat, by omega⟩
  exact lexBlanks_D l k M (by omega)
end Go.Den.EL
