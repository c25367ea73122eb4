/- Values as numbers, texts, truths: the law. -/
import Derived.Test.YtbkdoeghgdbjlaaGreatDoorValSV
import Derived.Test.YtbkdoeghgdbjlaaGreatDoorTyV
set_option linter.unusedVariables false
set_option linter.unusedSimpArgs false
set_option maxRecDepth 100000
namespace Go.Den.EV
open Go Go.Proofs
theorem alive12_ev : D 10 [] = some (.sc (.bool true)) := denI_of (k := 100) (by kernel_rfl)
theorem numV_kind (x : Int) : (numV x).kind = 1 ∨ (numV x).kind = 4 := by unfold numV madeV; split <;> simp
theorem strV_kind (t : ByteArray) : (strV t).kind = 2 ∨ (strV t).kind = 4 := by unfold strV madeV; split <;> simp
theorem badV_kind (c : Int) : (badV c).kind = 4 := by unfold badV madeV; split <;> rfl
theorem boolV_kind (b : Bool) : (boolV b).kind = 3 := rfl
theorem asNum_kind {v : Vl} (h : mayV v = true) : (asNumV v).kind = 1 ∨ (asNumV v).kind = 4 := by
  obtain ⟨k, n, t⟩ := v
  unfold asNumV
  dsimp only
  by_cases h0 : k = 0
  · rw [if_pos h0]; exact numV_kind _
  by_cases h3 : k = 3
  · rw [if_neg h0, if_pos h3]; exact numV_kind _
  by_cases h2 : k = 2
  · rw [if_neg h0, if_neg h3, if_pos h2]
    split
    · exact numV_kind _
    · exact Or.inr (badV_kind _)
  rw [if_neg h0, if_neg h3, if_neg h2]
  by_cases h1 : k = 1
  · exact Or.inl h1
  by_cases h4 : k = 4
  · exact Or.inr h4
  · exfalso
    unfold mayV at h
    simp [h0, h1, h2, h3, h4] at h
theorem asText_kind {v : Vl} (h : mayV v = true) : (asTextV v).kind = 2 ∨ (asTextV v).kind = 4 := by
  obtain ⟨k, n, t⟩ := v
  unfold asTextV
  dsimp only
  by_cases h0 : k = 0
  · rw [if_pos h0]; exact strV_kind _
  by_cases h3 : k = 3
  · rw [if_neg h0, if_pos h3]; exact strV_kind _
  by_cases h1 : k = 1
  · rw [if_neg h0, if_neg h3, if_pos h1]; exact strV_kind _
  rw [if_neg h0, if_neg h3, if_neg h1]
  by_cases h2 : k = 2
  · exact Or.inl h2
  by_cases h4 : k = 4
  · exact Or.inr h4
  · exfalso
    unfold mayV at h
    simp [h0, h1, h2, h3, h4] at h
theorem asTruth_kind {v : Vl} (h : mayV v = true) : (asTruthV v).kind = 3 ∨ (asTruthV v).kind = 4 := by
  obtain ⟨k, n, t⟩ := v
  unfold asTruthV
  dsimp only
  by_cases h0 : k = 0
  · rw [if_pos h0]; exact Or.inl rfl
  by_cases h1 : k = 1
  · rw [if_neg h0, if_pos h1]; exact Or.inl rfl
  by_cases h2 : k = 2
  · rw [if_neg h0, if_neg h1, if_pos h2]
    split
    · exact Or.inl rfl
    · exact Or.inr (badV_kind _)
  rw [if_neg h0, if_neg h1, if_neg h2]
  by_cases h3 : k = 3
  · exact Or.inl h3
  by_cases h4 : k = 4
  · exact Or.inr h4
  · exfalso
    unfold mayV at h
    simp [h0, h1, h2, h3, h4] at h
theorem asText_may (v : Vl) (h : mayV v = true) : mayV (asTextV v) = true := by
  unfold asTextV
  repeat' split
  · exact str_may _
  · exact str_may _
  · exact str_may _
  · exact h
theorem fault_same {v : Vl} (h : v.kind = 4) : asNumV v = v ∧ asTextV v = v ∧ asTruthV v = v := by
  obtain ⟨k, n, t⟩ := v
  dsimp only at h
  subst h
  exact ⟨rfl, rfl, rfl⟩
theorem num_back {v : Vl} (h : mayV v = true) (hn : I64 v.num) (hk : v.kind = 1) : asNumV (asTextV v) = v := by
  obtain ⟨k, n, t⟩ := v
  dsimp only at hk hn
  subst hk
  have h' : n ≠ -9223372036854775808 ∧ t = E := by
    unfold mayV at h
    simp only [show ¬ (1 : Int) = 0 by decide, if_false, if_true, Bool.and_eq_true, bne_iff_ne] at h
    exact ⟨h.1, em_iff.1 h.2⟩
  obtain ⟨h1, rfl⟩ := h'
  have hm : May n := by unfold I64 at hn; unfold May; omega
  have e : asTextV ⟨1, n, E⟩ = strV (B (texS n)) := rfl
  have hl := tex_len n
  rw [e, strV_small (by rw [B_size]; omega)]
  unfold asNumV
  have hr := read_texS hn
  rw [if_pos hm] at hr
  have hb : (B (texS n)).data.toList = texS n := rfl
  rw [if_neg (show ¬ (2 : Int) = 0 by decide), if_neg (show ¬ (2 : Int) = 3 by decide), if_pos rfl]
  dsimp only
  rw [hb, hr, if_pos rfl]
  unfold numV madeV mayV
  simp [h1, em_E]
theorem truth_back {v : Vl} (h : mayV v = true) (hk : v.kind = 3) : asTruthV (asTextV v) = v := by
  obtain ⟨k, n, t⟩ := v
  dsimp only at hk
  subst hk
  have h' : (n = 0 ∨ n = 1) ∧ t = E := by
    unfold mayV at h
    simp only [show ¬ (3 : Int) = 0 by decide, show ¬ (3 : Int) = 1 by decide, show ¬ (3 : Int) = 2 by decide, if_false, if_true, Bool.and_eq_true, Bool.or_eq_true, beq_iff_eq] at h
    exact ⟨h.1, em_iff.1 h.2⟩
  obtain ⟨h1, rfl⟩ := h'
  have e : asTextV ⟨3, n, E⟩ = strV (truthT n) := rfl
  have hs : ((truthT n).size : Int) ≤ 256 := by unfold truthT; split <;> decide
  rw [e, strV_small hs]
  have tt : isT truT truT = true := by simp [isT]
  have ff : isT falT falT = true := by simp [isT]
  have ft : isT falT truT = false := by
    show ((B [70, 65, 76, 83, 69]).toList == (B [84, 82, 85, 69]).toList) = false
    rw [B_toList, B_toList]; rfl
  unfold asTruthV
  rw [if_neg (show ¬ (2 : Int) = 0 by decide), if_neg (show ¬ (2 : Int) = 1 by decide), if_pos rfl]
  dsimp only
  rcases h1 with rfl | rfl
  · have e2 : truthT 0 = falT := rfl
    rw [e2, ff, ft]; rfl
  · have e2 : truthT 1 = truT := rfl
    rw [e2, tt]; rfl
def eqV (a b : Vl) : Bool := (a.kind == b.kind) && ((a.num == b.num) && ((a.text.toList == b.text.toList) && true))
theorem eqV_self (a : Vl) : eqV a a = true := by simp [eqV]
theorem eqV_of {a b : Vl} (h : a = b) : eqV a b = true := by rw [h]; exact eqV_self b
theorem eqV_fold (a b : Vl) : ((a.kind == b.kind) && ((a.num == b.num) && ((a.text.toList == b.text.toList) && true))) = eqV a b := rfl
theorem kind_ne {n : Int} {a b : Int} (h : n = a ∨ n = b) : ((n != a) && (n != b)) = false := by
  rcases h with rfl | rfl <;> simp
theorem valueTurns_D (v : Vl) (hn : I64 v.num) : D 3 [v.pv] = some (.sc (.bool true)) := by
  have hmay := vrmay_ev v hn.1
  by_cases hm : mayV v = true
  · have hsz := mayV_size hm
    have e1 := asNum_ev v (by omega)
    have e2 := asText_ev v hn
    have e3 := asTruth_ev v
    have r1 := rasNum_ev v (by omega)
    have r2 := rasText_ev v hn hm
    have r3 := rasTruth_ev v hm
    have s1 := show_ev v hn hm
    have s2 := rshow_ev v hn hm
    have q1 := quote_ev v.text.data.toList (by show v.text.size ≤ _; omega)
    have q2 := rquote_ev v.text.data.toList (by show v.text.size ≤ _; omega)
    rw [B_back] at q1 q2
    have k1 := asNum_kind hm
    have k2 := asText_kind hm
    have k3 := asTruth_kind hm
    have z1 := asNum_ev (asTextV v) (by
      have : (asTextV v).text.size ≤ 256 := by
        have := asText_may v hm
        exact mayV_size this
      omega)
    have z2 := asTruth_ev (asTextV v)
    have fs := @fault_same v
    have nb := @num_back v hm hn
    have tb' := @truth_back v hm
    rw [hm] at hmay
    generalize asNumV v = N at *
    generalize asTextV v = S at *
    generalize asTruthV v = Q at *
    obtain ⟨k, n, t⟩ := v
    refine (f3_eq 0 k n t).trans ?_
    simp only [Vl.fold] at hmay e1 e2 e3 r1 r2 r3 s1 s2 q1 q2 fs nb tb' ⊢
    refine cb hmay rfl (im (by decide) (cb e1 rfl (cb e2 rfl (cb e3 rfl (cb r1 rfl ?_)))))
    simp only [Vl.c0, Vl.c1, Vl.c2, Vl.rb, eqV_fold, r2, r3, s1, s2, q1, q2, alive12_ev, bs, shb, shs, Vl.sh, if_true, tb, ts, eqV_self, Bool.not_true, Bool.false_eq_true, if_false, beq_self_eq_true, bA, bO, Bool.or_false, Bool.or_self, z1, z2]
    by_cases h4 : k = 4
    · subst h4
      obtain ⟨rfl, rfl, rfl⟩ := fs rfl
      simp
    · by_cases h1 : k = 1
      · subst h1
        have := nb rfl
        rcases k1 with k1 | k1 <;> rcases k2 with k2 | k2 <;> rcases k3 with k3 | k3 <;> simp [this, k1, k2, k3]
      · by_cases h3 : k = 3
        · subst h3
          have := tb' rfl
          rcases k1 with k1 | k1 <;> rcases k2 with k2 | k2 <;> rcases k3 with k3 | k3 <;> simp [this, k1, k2, k3]
        · rcases k1 with k1 | k1 <;> rcases k2 with k2 | k2 <;> rcases k3 with k3 | k3 <;> simp [h1, h3, h4, k1, k2, k3]
  · have hm' : mayV v = false := by simpa using hm
    rw [hm'] at hmay
    obtain ⟨k, n, t⟩ := v
    refine (f3_eq 0 k n t).trans ?_
    exact cb hmay rfl (ip (by decide) (cb alive12_ev rfl rfl))
theorem valueTurns_law (W : World) (vs : List Value) (xs : List PV) (h : Handed Tryz.prog W [23] vs xs) : D 3 xs = some (.sc (.bool true)) := by
  obtain ⟨a, _, _, rfl, ha, h⟩ := handed_cons h
  obtain rfl := handed_nil h
  obtain ⟨k, n, t, rfl, _, h1, _⟩ := of23 ha
  rw [ag23]
  exact valueTurns_D ⟨k, n, t⟩ h1
end Go.Den.EV
