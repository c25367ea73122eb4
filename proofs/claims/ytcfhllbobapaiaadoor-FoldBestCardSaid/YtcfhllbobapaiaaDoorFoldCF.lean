/- Lists of values: as texts, as truths (the functions). -/
import Derived.Test.YtcfhllbobapaiaaDoorFoldBF
set_option linter.unusedVariables false
set_option linter.unusedSimpArgs false
set_option maxRecDepth 100000
namespace Go.Den.EF
open Go Go.Proofs
def concatV (ws : List ByteArray) : Vl := if (joinS ws).2 = true then strV (joinS ws).1 else badV 2
def wordsL (l : List Vl) : List ByteArray := l.map fun v => (asTextV v).text
theorem wordsL_cons (v : Vl) (l : List Vl) : wordsL (v :: l) = (asTextV v).text :: wordsL l := rfl
theorem sp_app (l : List ByteArray) (s : ByteArray) : sp l ++ [.sc (.string s)] = sp (l ++ [s]) := by simp [sp]
theorem concat_b (l : List Vl) (hl : l.length ≤ 1000) (hn : ∀ v, v ∈ l → I64 v.num) : ∀ (m i : Nat) (ws : List ByteArray), i + m = l.length → ws.length ≤ i →
    f43.l0b 0 (vp l).length (fun i => (vp l).getD i .top) ((vp l).length : Int) (i : Int) 0 0 E (sp ws) = some (concatV (ws ++ wordsL (l.drop i))).pv := by
  intro m
  induction m with
  | zero =>
    intro i ws he hw
    rw [f43.l0b_eq, List.drop_eq_nil_of_le (by omega)]
    refine lpe (by rw [vp_len]; omega) ?_
    rw [show wordsL [] = [] from rfl, List.append_nil]
    refine cb (join_ev ws (by omega)) rfl ?_
    unfold concatV
    show (if (!(joinS ws).2) = true then _ else _) = _
    cases h : (joinS ws).2
    · refine ip rfl (cb (bad_ev _) rfl ?_)
      simp only [Vl.c0, Vl.c1, Vl.c2, Vl.fold, Vl.rb]
      rfl
    · refine im (by decide) (cb (str_ev _) rfl ?_)
      simp only [Vl.c0, Vl.c1, Vl.c2, Vl.fold, Vl.rb]
      rfl
  | succ m ih =>
    intro i ws he hw
    have hi : i < l.length := by omega
    rw [f43.l0b_eq]
    refine lpc (by rw [vp_len]; omega) (by rw [vp_len]; omega) (vp_sh hi) ?_
    simp only [Int.toNat_natCast, vp_get hi, Vl.c0, Vl.c1, Vl.c2, Vl.fold, Vl.rb]
    refine cb (asText_ev _ (hn _ (List.getElem_mem hi))) rfl ?_
    simp only [Vl.c0, Vl.c1, Vl.c2]
    refine ip (by rw [sp_len]; simp; omega) ?_
    rw [nx hi (by omega), sp_app, ih (i + 1) _ (by omega) (by simp; omega), drop_at hi, wordsL_cons, List.append_assoc]
    rfl
theorem concat_ev (l : List Vl) (hl : l.length ≤ 1000) (hn : ∀ v, v ∈ l → I64 v.num) : D 43 [frozen 3 (vp l)] = some (match faultO l with | some v => v | none => concatV (wordsL l)).pv := by
  refine (f43_eq 0 (vp l).length _).trans (cb (ffault_ev l (by omega)) rfl ?_)
  unfold faultV
  simp only [Vl.c0, Vl.c1, Vl.c2, Vl.fold, Vl.rb]
  cases hf : faultO l with
  | some v => exact ip (by simp [faultO_kind hf]) rfl
  | none =>
    refine im (by decide) ?_
    rw [f43.l0a_eq]
    by_cases h0 : 0 < l.length
    · refine lpc (i := 0) (by rw [vp_len]; omega) (by rw [vp_len]; omega) (vp_sh h0) ?_
      have e0 : (vp l).getD (0 : Int).toNat .top = l[0].pv := vp_get h0
      simp only [e0, Vl.c0, Vl.c1, Vl.c2, Vl.fold, Vl.rb]
      refine cb (asText_ev _ (hn _ (List.getElem_mem h0))) rfl ?_
      simp only [Vl.c0, Vl.c1, Vl.c2]
      refine ip (by simp) ?_
      rw [show IntKind.i64.wrap ((0 : Int) + 1) = ((1 : Nat) : Int) from rfl]
      have ed : l = l[0] :: l.drop 1 := by have := drop_at h0; rwa [List.drop_zero] at this
      refine (concat_b l hl hn (l.length - 1) 1 [(asTextV l[0]).text] (by omega) (Nat.le_refl _)).trans ?_
      conv => rhs; rw [ed]
      rfl
    · have hl0 : l = [] := List.eq_nil_of_length_eq_zero (by omega)
      subst hl0
      refine lpe (i := 0) (by simp [vp]) ?_
      refine cb (join_ev [] (by simp)) rfl ?_
      refine im (by decide) (cb (str_ev _) rfl ?_)
      simp only [Vl.c0, Vl.c1, Vl.c2, Vl.fold, Vl.rb]
      rfl
theorem strV_text {s : ByteArray} (hs : s.size ≤ 256) : (strV s).text = s := by
  have h : mayV ⟨2, 0, s⟩ = true := by unfold mayV; simp; omega
  unfold strV madeV
  rw [if_pos h]
theorem texS_len (n : Int) : (texS n).length ≤ 30 := by
  unfold texS
  split
  · rename_i h2
    have h1 := head_len h2
    unfold texL
    rw [List.length_append]
    have h3 := frac_len 4 (n.natAbs % 10000)
    have h4 : (fracS (n.natAbs % 10000)).length ≤ 5 := by
      unfold fracS
      split
      · simp
      · rw [List.length_cons]; omega
    omega
  · simp
/-- Words, as the reference tells them. -/
theorem words_ev (v : Vl) (h : I64 v.num) (hm : mayV v = true) (h4 : v.kind ≠ 4) : D 102 [v.pv] = some (.sc (.string (asTextV v).text)) ∧ (asTextV v).text.size ≤ 256 := by
  obtain ⟨k, n, t⟩ := v
  dsimp only at h h4
  have e := f102_eq 0 k n t
  show D 102 [.agg [.sc (.int .i64 k), .sc (.int .i64 n), .sc (.string t)]] = _ ∧ _
  rw [e]
  simp only [bA, tb]
  have ht : ∀ x, asTextV ⟨k, n, t⟩ = x → asTextV ⟨k, n, t⟩ = x := fun _ h => h
  unfold mayV at hm
  dsimp only at hm
  by_cases h0 : k = 0
  · subst h0
    simp only [if_true, Bool.and_eq_true, beq_iff_eq] at hm
    obtain ⟨rfl, hm⟩ := hm
    rw [em_iff] at hm
    subst hm
    have e2 : (asTextV ⟨0, 0, E⟩).text = E := strV_text (s := E) (by decide)
    rw [e2]
    exact ⟨rfl, by decide⟩
  rw [if_neg h0] at hm
  by_cases h1 : k = 1
  · subst h1
    have hs : (B (texS n)).size ≤ 256 := by
      rw [B_size]
      have := texS_len n
      omega
    have e2 : (asTextV ⟨1, n, t⟩).text = B (texS n) := strV_text hs
    rw [e2]
    exact ⟨ip (by decide) (cb (rtext_ev h) rfl rfl), hs⟩
  rw [if_neg h1] at hm
  by_cases h2 : k = 2
  · subst h2
    simp only [if_true, Bool.and_eq_true, decide_eq_true_eq] at hm
    exact ⟨im (by decide) (im (by simp) (im (by decide) rfl)), by have := hm.2; show t.size ≤ 256; omega⟩
  rw [if_neg h2] at hm
  by_cases h3 : k = 3
  · subst h3
    by_cases hn1 : n = 1
    · subst hn1
      have e2 : (asTextV ⟨3, 1, t⟩).text = truthT 1 := strV_text (s := truthT 1) (by decide)
      rw [e2]
      exact ⟨im (by decide) (ip (by decide) rfl), by decide⟩
    · have e3 : truthT n = ⟨#[70, 65, 76, 83, 69]⟩ := if_neg hn1
      have e2 : (asTextV ⟨3, n, t⟩).text = truthT n := strV_text (by rw [e3]; decide)
      rw [e2, e3]
      exact ⟨im (by decide) (im (by simp [hn1]) (ip (by decide) rfl)), by decide⟩
  · rw [if_neg h3, if_neg h4] at hm
    cases hm
theorem rconcat_b (l : List Vl) (hl : l.length ≤ 1000) (hn : ∀ v, v ∈ l → I64 v.num) (hm : ∀ v, v ∈ l → mayV v = true) (h4 : ∀ v, v ∈ l → v.kind ≠ 4) : ∀ (m i : Nat) (ws : List ByteArray), i + m = l.length → ws.length ≤ i → (∀ s, s ∈ ws → s.size ≤ 256) →
    f44.l0b 0 (vp l).length (fun i => (vp l).getD i .top) (i : Int) 0 0 E (sp ws) = some (concatV (ws ++ wordsL (l.drop i))).pv := by
  intro m
  induction m with
  | zero =>
    intro i ws he hw hs
    rw [f44.l0b_eq, List.drop_eq_nil_of_le (by omega)]
    refine lpe (by rw [vp_len]; omega) ?_
    rw [show wordsL [] = [] from rfl, List.append_nil]
    refine cb (rjoin_ev ws (by omega) fun s h => by have := hs s h; omega) rfl ?_
    unfold concatV
    show (if (!(joinS ws).2) = true then _ else _) = _
    cases h : (joinS ws).2
    · refine ip rfl (cb (rbad_ev _) rfl ?_)
      simp only [Vl.c0, Vl.c1, Vl.c2, Vl.fold, Vl.rb]
      rfl
    · refine im (by decide) (cb (rstr_ev _) rfl ?_)
      simp only [Vl.c0, Vl.c1, Vl.c2, Vl.fold, Vl.rb]
      rfl
  | succ m ih =>
    intro i ws he hw hs
    have hi : i < l.length := by omega
    have hmem := List.getElem_mem hi
    obtain ⟨w1, w2⟩ := words_ev l[i] (hn _ hmem) (hm _ hmem) (h4 _ hmem)
    rw [f44.l0b_eq]
    refine lpc (by rw [vp_len]; omega) (by rw [vp_len]; omega) (vp_sh hi) ?_
    simp only [Int.toNat_natCast, vp_get hi, Vl.c0, Vl.c1, Vl.c2, Vl.fold, Vl.rb]
    refine cb w1 rfl ?_
    simp only [ts]
    refine ip (by rw [sp_len]; simp; omega) ?_
    rw [nx hi (by omega), sp_app, ih (i + 1) _ (by omega) (by simp; omega) (fun s h => by
      rcases List.mem_append.1 h with h | h
      · exact hs s h
      · rw [List.mem_singleton.1 h]; exact w2), drop_at hi, wordsL_cons, List.append_assoc]
    rfl
theorem rconcat_ev (l : List Vl) (hl : l.length ≤ 1000) (hn : ∀ v, v ∈ l → I64 v.num) (hm : ∀ v, v ∈ l → mayV v = true) : D 44 [frozen 3 (vp l)] = some (match faultO l with | some v => v | none => concatV (wordsL l)).pv := by
  refine (f44_eq 0 (vp l).length _).trans (cb (rffault_ev l (by omega)) rfl ?_)
  simp only [ti]
  rcases faultI_spec l with ⟨h1, h2⟩ | ⟨i, hi, h1, h2⟩
  · rw [h2, h1]
    refine im (by decide) ?_
    have h4 := faultO_none h1
    rw [f44.l0a_eq]
    by_cases h0 : 0 < l.length
    · have hmem := List.getElem_mem h0
      obtain ⟨w1, w2⟩ := words_ev l[0] (hn _ hmem) (hm _ hmem) (h4 _ hmem)
      refine lpc (i := 0) (by rw [vp_len]; omega) (by rw [vp_len]; omega) (vp_sh h0) ?_
      have e0 : (vp l).getD (0 : Int).toNat .top = l[0].pv := vp_get h0
      simp only [e0, Vl.c0, Vl.c1, Vl.c2, Vl.fold, Vl.rb]
      refine cb w1 rfl ?_
      simp only [ts]
      refine ip (by simp) ?_
      rw [show IntKind.i64.wrap ((0 : Int) + 1) = ((1 : Nat) : Int) from rfl]
      have ed : l = l[0] :: l.drop 1 := by have := drop_at h0; rwa [List.drop_zero] at this
      refine (rconcat_b l hl hn hm h4 (l.length - 1) 1 [(asTextV l[0]).text] (by omega) (Nat.le_refl _) (fun s h => by rw [List.mem_singleton.1 h]; exact w2)).trans ?_
      conv => rhs; rw [ed]
      rfl
    · have hl0 : l = [] := List.eq_nil_of_length_eq_zero (by omega)
      subst hl0
      refine lpe (i := 0) (by simp [vp]) ?_
      refine cb (rjoin_ev [] (by simp) (fun s h => by cases h)) rfl ?_
      refine im (by decide) (cb (rstr_ev _) rfl ?_)
      simp only [Vl.c0, Vl.c1, Vl.c2, Vl.fold, Vl.rb]
      rfl
  · rw [h1, h2]
    refine ip (decide_eq_true (Int.natCast_nonneg i)) (lpr (by rw [vp_len]; omega) (vp_sh hi) ?_)
    simp only [Int.toNat_natCast, vp_get hi, Vl.c0, Vl.c1, Vl.c2, Vl.fold, Vl.rb]
/-- An odd number of truths? -/
def xorV : List Vl → Bool → Vl
  | [], odd => boolV odd
  | v :: l, odd => if (asTruthV v).kind = 4 then asTruthV v else xorV l (odd != ((asTruthV v).num == 1))
theorem xor_l (l : List Vl) (hl : l.length ≤ 1000000) : ∀ (m i : Nat) (odd : Bool), i + m = l.length →
    f45.l0a 0 odd (vp l).length (fun i => (vp l).getD i .top) ((vp l).length : Int) (i : Int) 0 0 E = some (xorV (l.drop i) odd).pv := by
  intro m
  induction m with
  | zero =>
    intro i odd he
    rw [f45.l0a_eq, List.drop_eq_nil_of_le (by omega)]
    refine lpe (by rw [vp_len]; omega) (cb (bool_ev _) rfl ?_)
    simp only [Vl.c0, Vl.c1, Vl.c2, Vl.fold, Vl.rb]
    rfl
  | succ m ih =>
    intro i odd he
    have hi : i < l.length := by omega
    rw [f45.l0a_eq]
    refine lpc (by rw [vp_len]; omega) (by rw [vp_len]; omega) (vp_sh hi) ?_
    simp only [Int.toNat_natCast, vp_get hi, Vl.c0, Vl.c1, Vl.c2, Vl.fold, Vl.rb]
    refine cb (asTruth_ev _) rfl ?_
    simp only [Vl.c0, Vl.c1, Vl.c2, Vl.fold, Vl.rb]
    rw [drop_at hi]
    unfold xorV
    by_cases h : (asTruthV l[i]).kind = 4
    · rw [if_pos h]
      exact ip (by simp [h]) rfl
    · rw [if_neg h]
      refine im (by simp [h]) ?_
      rw [nx hi (by omega)]
      exact ih (i + 1) _ (by omega)
theorem xor_ev (l : List Vl) (hl : l.length ≤ 1000000) : D 45 [frozen 3 (vp l)] = some (xorV l false).pv :=
  (f45_eq 0 (vp l).length _).trans (xor_l l hl l.length 0 false (by omega))
theorem truth_num {v : Vl} (hm : mayV v = true) (h : (asTruthV v).kind ≠ 4) : (asTruthV v).num = 0 ∨ (asTruthV v).num = 1 := by
  obtain ⟨k, n, t⟩ := v
  unfold asTruthV at h ⊢
  unfold mayV at hm
  dsimp only at hm h ⊢
  have bo : ∀ b, (boolV b).num = 0 ∨ (boolV b).num = 1 := fun b => by cases b <;> simp [boolV]
  by_cases h0 : k = 0
  · rw [if_pos h0]; exact bo _
  rw [if_neg h0] at hm h ⊢
  by_cases h1 : k = 1
  · rw [if_pos h1]; exact bo _
  rw [if_neg h1] at hm h ⊢
  by_cases h2 : k = 2
  · rw [if_pos h2] at h ⊢
    split
    · exact bo _
    · rename_i h3
      rw [if_neg h3, bad_2] at h
      exact absurd rfl h
  rw [if_neg h2] at hm h ⊢
  by_cases h3 : k = 3
  · rw [if_pos h3] at hm
    simp only [Bool.and_eq_true, Bool.or_eq_true, beq_iff_eq] at hm
    exact hm.1
  · rw [if_neg h3] at hm
    exact absurd (by
      by_cases h4 : k = 4
      · exact h4
      · rw [if_neg h4] at hm; cases hm) h
theorem rxor_l (l : List Vl) (hl : l.length ≤ 1000000) (hm : ∀ v, v ∈ l → mayV v = true) : ∀ (m i n : Nat), i + m = l.length → n ≤ i →
    f46.l0a 0 (vp l).length (fun i => (vp l).getD i .top) (n : Int) (i : Int) 0 0 E = some (xorV (l.drop i) (n % 2 == 1)).pv := by
  intro m
  induction m with
  | zero =>
    intro i n he hn
    rw [f46.l0a_eq, List.drop_eq_nil_of_le (by omega)]
    refine lpe (by rw [vp_len]; omega) ?_
    have e : (((n : Int).tmod 2) == 1) = (n % 2 == 1) := by
      rw [Int.tmod_eq_emod_of_nonneg (by omega), Bool.eq_iff_iff, beq_iff_eq, beq_iff_eq]
      omega
    rw [e]
    refine cb (rbool_ev _) rfl ?_
    simp only [Vl.c0, Vl.c1, Vl.c2, Vl.fold, Vl.rb]
    rfl
  | succ m ih =>
    intro i n he hn
    have hi : i < l.length := by omega
    have hmi := hm _ (List.getElem_mem hi)
    rw [f46.l0a_eq]
    refine lpc (by rw [vp_len]; omega) (by rw [vp_len]; omega) (vp_sh hi) ?_
    simp only [Int.toNat_natCast, vp_get hi, Vl.c0, Vl.c1, Vl.c2, Vl.fold, Vl.rb]
    refine cb (rasTruth_ev _ hmi) rfl ?_
    simp only [Vl.c0, Vl.c1, Vl.c2, Vl.fold, Vl.rb]
    rw [drop_at hi]
    unfold xorV
    by_cases h : (asTruthV l[i]).kind = 4
    · rw [if_pos h]
      exact ip (by simp [h]) rfl
    · rw [if_neg h]
      refine im (by simp [h]) ?_
      rw [nx hi (by omega)]
      rcases truth_num hmi h with e | e
      · rw [e, w64 (by omega) (by omega), show ((n : Int) + 0) = ((n : Nat) : Int) by omega, ih (i + 1) n (by omega) (by omega)]
        simp
      · rw [e, w64 (by omega) (by omega), show ((n : Int) + 1) = ((n + 1 : Nat) : Int) by omega, ih (i + 1) (n + 1) (by omega) (by omega)]
        have e2 : ((n + 1) % 2 == 1) = ((n % 2 == 1) != ((1 : Int) == 1)) := by
          have : n % 2 = 0 ∨ n % 2 = 1 := by omega
          rcases this with h2 | h2
          · rw [h2, show (n + 1) % 2 = 1 by omega]; rfl
          · rw [h2, show (n + 1) % 2 = 0 by omega]; rfl
        rw [e2]
theorem rxor_ev (l : List Vl) (hl : l.length ≤ 1000000) (hm : ∀ v, v ∈ l → mayV v = true) : D 46 [frozen 3 (vp l)] = some (xorV l false).pv :=
  (f46_eq 0 (vp l).length _).trans (rxor_l l hl hm l.length 0 0 (by omega) (Nat.le_refl _))
end Go.Den.EF
