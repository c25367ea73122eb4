/- Values as numbers, texts, truths, and as they are shown: the law. -/
import Derived.Test.YtbkdoeghgdbjlaaGreatDoorValTV
import Derived.Test.YtbkdoeghgdbjlaaGreatDoorDigSV
import Derived.Test.YtbkdoeghgdbjlaaGreatDoorQuoTV
set_option linter.unusedVariables false
set_option linter.unusedSimpArgs false
set_option maxRecDepth 100000
namespace Go.Den.EV
open Go Go.Proofs
def asNumV (v : Vl) : Vl := if v.kind = 0 then numV 0 else if v.kind = 3 then numV (IntKind.i64.wrap (v.num * 10000)) else if v.kind = 2 then (if (readL v.text.data.toList).2 = true then numV (readL v.text.data.toList).1 else badV 2) else v
theorem B_back (t : ByteArray) : B t.data.toList = t := by rcases t with ⟨⟨l⟩⟩; rfl
theorem mayV_size {v : Vl} (h : mayV v = true) : v.text.size ≤ 256 := by
  unfold mayV at h
  have e0 : ∀ {t : ByteArray}, em t = true → t.size ≤ 256 := by
    intro t h
    rw [em_iff] at h
    rw [h]; exact Nat.zero_le _
  repeat' split at h
  · simp only [Bool.and_eq_true] at h; exact e0 h.2
  · simp only [Bool.and_eq_true] at h; exact e0 h.2
  · simp only [Bool.and_eq_true, decide_eq_true_eq] at h; omega
  · simp only [Bool.and_eq_true] at h; exact e0 h.2
  · simp only [Bool.and_eq_true] at h; exact e0 h.2
  · cases h
theorem wrap_lo (x : Int) : -9223372036854775808 ≤ IntKind.i64.wrap x := by
  simp only [IntKind.wrap, IntKind.bits, IntKind.signed]
  simp
  omega
theorem tex_len (x : Int) : (texS x).length ≤ 40 := by
  unfold texS
  by_cases h : May x
  · rw [if_pos h]
    have h1 := head_len h
    have h2 : (fracS (x.natAbs % 10000)).length ≤ 5 := by
      unfold fracS
      split
      · simp
      · have := frac_len 4 (x.natAbs % 10000)
        simp; omega
    unfold texL
    rw [List.length_append]; omega
  · rw [if_neg h]; simp
theorem strV_small {t : ByteArray} (h : (t.size : Int) ≤ 256) : strV t = ⟨2, 0, t⟩ := by
  unfold strV madeV mayV
  simp [h]
theorem asNum_ev (v : Vl) (hs : v.text.size ≤ 1000000) : D 11 [v.pv] = some (asNumV v).pv := by
  obtain ⟨k, n, t⟩ := v
  refine (f11_eq 0 k n t).trans ?_
  unfold asNumV
  dsimp only at hs ⊢
  by_cases h0 : k = 0
  · subst h0
    exact ip rfl (cb (num_ev 0) rfl rfl)
  refine im (by simpa using h0) ?_
  rw [if_neg h0]
  by_cases h3 : k = 3
  · subst h3
    exact ip rfl (cb (num_ev _) rfl rfl)
  refine im (by simpa using h3) ?_
  rw [if_neg h3]
  by_cases h2 : k = 2
  · subst h2
    refine ip rfl ?_
    have hr := read_ev (l := t.data.toList) (by show t.size ≤ _; exact hs)
    rw [B_back] at hr
    refine cb hr rfl ?_
    rw [if_pos rfl]
    by_cases h : (readL t.data.toList).2 = true
    · rw [if_pos h]
      exact ip h (cb (num_ev _) rfl rfl)
    · rw [if_neg h]
      exact im h (cb (bad_ev 2) rfl rfl)
  · rw [if_neg h2]
    exact im (by simpa using h2) rfl
theorem rasNum_ev (v : Vl) (hs : v.text.size ≤ 1000000) : D 14 [v.pv] = some (asNumV v).pv := by
  obtain ⟨k, n, t⟩ := v
  refine (f14_eq 0 k n t).trans ?_
  unfold asNumV
  dsimp only at hs ⊢
  by_cases h0 : k = 0
  · subst h0
    exact ip rfl (cb (rnum_ev 0 (by decide)) rfl rfl)
  refine im (by simpa using h0) ?_
  rw [if_neg h0]
  by_cases h3 : k = 3
  · subst h3
    exact ip rfl (cb (rnum_ev _ (wrap_lo _)) rfl rfl)
  refine im (by simpa using h3) ?_
  rw [if_neg h3]
  by_cases h2 : k = 2
  · subst h2
    refine im (by decide) ?_
    have hr := rread_ev t.data.toList (by show t.size ≤ _; exact hs)
    rw [B_back] at hr
    refine cb hr rfl ?_
    rw [if_pos rfl]
    by_cases h : (readL t.data.toList).2 = true
    · rw [if_pos h]
      exact im (show ¬ (!(readL t.data.toList).2) = true by rw [h]; decide) (cb (rnum_ev _ read_ok.1.1) rfl rfl)
    · rw [if_neg h]
      exact ip (show (!(readL t.data.toList).2) = true by simpa using h) (cb (rbad_ev 2) rfl rfl)
  · rw [if_neg h2]
    exact ip (by simpa using h2) rfl
theorem rwords_ev (v : Vl) (hn : I64 v.num) : D 69 [v.pv] = some (.sc (.string (if v.kind = 1 then B (texS v.num) else if v.kind = 3 then truthT v.num else v.text))) := by
  obtain ⟨k, n, t⟩ := v
  refine (f69_eq 0 k n t).trans ?_
  dsimp only at hn ⊢
  by_cases h1 : k = 1
  · subst h1
    exact ip rfl (cb (rtext_ev hn) rfl rfl)
  refine im (by simpa using h1) ?_
  rw [if_neg h1, bA]
  unfold truthT
  by_cases h3 : k = 3
  · subst h3
    rw [if_pos rfl]
    by_cases hn1 : n = 1
    · subst hn1
      exact ip rfl rfl
    · rw [if_neg hn1]
      refine im (show ¬ (((3 : Int) == 3) && (n == 1)) = true by simp [hn1]) (ip rfl rfl)
  · rw [if_neg h3]
    refine im (show ¬ ((k == 3) && (n == 1)) = true by simp [h3]) (im (by simpa using h3) rfl)
theorem rasText_ev (v : Vl) (hn : I64 v.num) (hm : mayV v = true) : D 15 [v.pv] = some (asTextV v).pv := by
  have hw := rwords_ev v hn
  obtain ⟨k, n, t⟩ := v
  refine (f15_eq 0 k n t).trans ?_
  unfold asTextV
  dsimp only at hn hw ⊢
  by_cases h4 : k = 4
  · subst h4
    exact ip rfl rfl
  refine im (by simpa using h4) (cb hw rfl (cb (rstr_ev _) rfl ?_))
  show some (strV _).pv = _
  by_cases h0 : k = 0
  · subst h0
    have e : t = E := by
      unfold mayV at hm
      simp only [if_true, Bool.and_eq_true] at hm
      exact em_iff.1 hm.2
    subst e; rfl
  by_cases h1 : k = 1
  · subst h1; rfl
  by_cases h3 : k = 3
  · subst h3; rfl
  by_cases h2 : k = 2
  · subst h2
    have : strV t = ⟨2, n, t⟩ := by
      unfold mayV at hm
      simp only [show ¬ (2 : Int) = 0 by decide, show ¬ (2 : Int) = 1 by decide, if_false, if_true, Bool.and_eq_true, beq_iff_eq, decide_eq_true_eq] at hm
      obtain ⟨hn0, hs⟩ := hm
      subst hn0
      unfold strV madeV mayV
      simp [hs]
    simp [this]
  · exfalso
    unfold mayV at hm
    simp [h0, h1, h2, h3, h4] at hm
def showV (v : Vl) : List UInt8 := if v.kind = 2 then quoL v.text.data.toList else if v.kind = 4 then (faultT v.num).data.toList else if v.kind = 1 then texS v.num else if v.kind = 3 then (truthT v.num).data.toList else []
theorem show_ev (v : Vl) (hn : I64 v.num) (hm : mayV v = true) : D 17 [v.pv] = some (.sc (.string (B (showV v)))) := by
  have hw := asText_ev v hn
  have hsz := mayV_size hm
  obtain ⟨k, n, t⟩ := v
  refine (f17_eq 0 k n t).trans ?_
  dsimp only at hn hsz ⊢
  unfold showV
  by_cases h0 : k = 0
  · subst h0
    exact ip rfl rfl
  refine im (by simpa using h0) ?_
  by_cases h2 : k = 2
  · subst h2
    have hq := quote_ev t.data.toList (by show t.size ≤ _; omega)
    rw [B_back] at hq
    exact ip rfl (cb hq rfl rfl)
  refine im (by simpa using h2) ?_
  by_cases h4 : k = 4
  · subst h4
    refine ip rfl (cb (fault_ev n) rfl ?_)
    rw [if_neg (show ¬ (4 : Int) = 2 by decide), if_pos rfl, B_back]; rfl
  refine im (by simpa using h4) (cb hw rfl ?_)
  show some (PV.sc (.string (asTextV ⟨k, n, t⟩).text)) = _
  rw [if_neg h2, if_neg h4]
  by_cases h1 : k = 1
  · subst h1
    rw [if_pos rfl]
    have hl : (texS n).length ≤ 256 := by
      have := tex_len n
      omega
    have e : asTextV ⟨1, n, t⟩ = strV (B (texS n)) := rfl
    rw [e, strV_small (by rw [B_size]; omega)]
  by_cases h3 : k = 3
  · subst h3
    have e : asTextV ⟨3, n, t⟩ = strV (truthT n) := rfl
    have hs : ((truthT n).size : Int) ≤ 256 := by unfold truthT; split <;> decide
    rw [e, strV_small hs, if_neg (show ¬ (3 : Int) = 1 by decide), if_pos rfl, B_back]
  · exfalso
    unfold mayV at hm
    simp [h0, h1, h2, h3, h4] at hm
theorem rshow_ev (v : Vl) (hn : I64 v.num) (hm : mayV v = true) : D 18 [v.pv] = some (.sc (.string (B (showV v)))) := by
  have hw := rwords_ev v hn
  have hsz := mayV_size hm
  obtain ⟨k, n, t⟩ := v
  refine (f18_eq 0 k n t).trans ?_
  dsimp only at hn hsz hw ⊢
  unfold showV
  by_cases h2 : k = 2
  · subst h2
    have hq := rquote_ev t.data.toList (by show t.size ≤ _; omega)
    rw [B_back] at hq
    exact ip rfl (cb hq rfl rfl)
  refine im (by simpa using h2) ?_
  by_cases h4 : k = 4
  · subst h4
    refine ip rfl (cb (rfault_ev n) rfl ?_)
    rw [if_neg (show ¬ (4 : Int) = 2 by decide), if_pos rfl, B_back]; rfl
  refine im (by simpa using h4) (cb hw rfl ?_)
  show some (PV.sc (.string _)) = _
  rw [if_neg h2, if_neg h4]
  by_cases h1 : k = 1
  · rw [if_pos h1, if_pos h1]; rfl
  by_cases h3 : k = 3
  · rw [if_neg h1, if_pos h3, if_neg h1, if_pos h3, B_back]; rfl
  · rw [if_neg h1, if_neg h3, if_neg h1, if_neg h3]
    have h0 : k = 0 := by
      apply Classical.byContradiction
      intro h0
      unfold mayV at hm
      simp [h0, h1, h2, h3, h4] at hm
    subst h0
    have e : t = E := by
      unfold mayV at hm
      simp only [if_true, Bool.and_eq_true] at hm
      exact em_iff.1 hm.2
    subst e; rfl
end Go.Den.EV
