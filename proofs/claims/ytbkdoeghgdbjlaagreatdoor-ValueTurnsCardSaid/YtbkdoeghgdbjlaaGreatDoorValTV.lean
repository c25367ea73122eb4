/- Values: whether they may be, what is made, how they turn. -/
import Derived.Test.YtbkdoeghgdbjlaaGreatDoorDigTV
set_option linter.unusedVariables false
set_option linter.unusedSimpArgs false
set_option maxRecDepth 100000
namespace Go.Den.EV
open Go Go.Proofs
structure Vl where
  kind : Int
  num : Int
  text : ByteArray
def Vl.pv (v : Vl) : PV := .agg [.sc (.int .i64 v.kind), .sc (.int .i64 v.num), .sc (.string v.text)]
@[simp] theorem Vl.sh (v : Vl) : hasSh (.agg [(.int .i64), (.int .i64), .str]) v.pv = true := rfl
@[simp] theorem Vl.c0 (v : Vl) : (cel 0 v.pv.cells).toInt = v.kind := rfl
@[simp] theorem Vl.c1 (v : Vl) : (cel 1 v.pv.cells).toInt = v.num := rfl
@[simp] theorem Vl.c2 (v : Vl) : (cel 2 v.pv.cells).toStr = v.text := rfl
theorem Vl.fold (k n : Int) (t : ByteArray) : PV.agg [.sc (.int .i64 k), .sc (.int .i64 n), .sc (.string t)] = (Vl.mk k n t).pv := rfl
theorem Vl.rb (v : Vl) : Vl.mk v.kind v.num v.text = v := rfl
abbrev E : ByteArray := ⟨#[]⟩
def em (t : ByteArray) : Bool := t.toList == E.toList
def mayV (v : Vl) : Bool :=
  if v.kind = 0 then v.num == 0 && em v.text else if v.kind = 1 then v.num != -9223372036854775808 && em v.text else if v.kind = 2 then v.num == 0 && decide ((v.text.size : Int) ≤ 256)
  else if v.kind = 3 then (v.num == 0 || v.num == 1) && em v.text else if v.kind = 4 then (decide (v.num ≥ 1) && decide (v.num ≤ 7)) && em v.text else false
theorem em_fold (t : ByteArray) : (t.toList == (⟨#[]⟩ : ByteArray).toList) = em t := rfl
theorem vmay_ev (v : Vl) : D 134 [v.pv] = some (.sc (.bool (mayV v))) := by
  obtain ⟨k, n, t⟩ := v
  unfold Vl.pv
  simp only []
  rw [f134_eq 0, f106_eq 0]
  simp only [em_fold, mayV]
  by_cases h0 : k = 0
  · subst h0
    by_cases h1 : n = 0 <;> simp [h1]
  by_cases h1 : k = 1
  · subst h1
    cases hb : (n != -9223372036854775808) <;> simp [hb]
  by_cases h2 : k = 2
  · subst h2
    by_cases h1 : n = 0 <;> simp [h1]
  by_cases h3 : k = 3
  · subst h3
    by_cases h1 : n = 0
    · simp [h1]
    · by_cases h2 : n = 1 <;> simp [h1, h2]
  by_cases h4 : k = 4
  · subst h4
    by_cases h1 : 1 ≤ n
    · by_cases h2 : n ≤ 7 <;> simp [h1, h2]
    · simp [h1]
  simp [h0, h1, h2, h3, h4]
theorem vrmay_ev (v : Vl) (h : -9223372036854775808 ≤ v.num) : D 9 [v.pv] = some (.sc (.bool (mayV v))) := by
  obtain ⟨k, n, t⟩ := v
  unfold Vl.pv
  simp only [] at h ⊢
  rw [f9_eq 0, f56_eq 0]
  simp only [em_fold, mayV]
  by_cases h0 : k = 0
  · subst h0
    cases em t <;> by_cases h1 : n = 0 <;> simp [h1]
  by_cases h1 : k = 1
  · subst h1
    have e : (n != -9223372036854775808) = decide (n ≥ -9223372036854775807) := by
      by_cases h2 : n = -9223372036854775808
      · subst h2; decide
      · have : n ≥ -9223372036854775807 := by omega
        simp [h2, this]
    rw [e]
    cases em t <;> by_cases h1 : -9223372036854775807 ≤ n <;> simp [h1]
  by_cases h2 : k = 2
  · subst h2
    by_cases h1 : n = 0 <;> by_cases h3 : (t.size : Int) ≤ 256 <;> simp [h1, h3]
  by_cases h3 : k = 3
  · subst h3
    by_cases h1 : n = 0
    · cases em t <;> simp [h1]
    · by_cases h2 : n = 1 <;> cases em t <;> simp [h1, h2]
  by_cases h4 : k = 4
  · subst h4
    by_cases h1 : 1 ≤ n
    · by_cases h2 : n ≤ 7 <;> cases em t <;> simp [h1, h2]
    · cases em t <;> simp [h1]
  simp [h0, h1, h2, h3, h4]
def madeV (v : Vl) (c : Int) : Vl := if mayV v then v else ⟨4, c, E⟩
theorem made_ev (v : Vl) (c : Int) : D 99 [v.pv, .sc (.int .i64 c)] = some (madeV v c).pv := by
  have h := vmay_ev v
  obtain ⟨k, n, t⟩ := v
  have e := f99_eq 0 k n t c
  simp only [Vl.fold] at e
  rw [e, h]
  unfold madeV
  cases mayV ⟨k, n, t⟩ <;> simp
def numV (x : Int) : Vl := madeV ⟨1, x, E⟩ 4
def strV (t : ByteArray) : Vl := madeV ⟨2, 0, t⟩ 2
def boolV (b : Bool) : Vl := ⟨3, if b then 1 else 0, E⟩
def badV (c : Int) : Vl := madeV ⟨4, c, E⟩ 2
theorem num_ev (x : Int) : D 58 [.sc (.int .i64 x)] = some (numV x).pv := by
  rw [f58_eq 0]; simp only [Vl.fold]; rw [made_ev]; simp [Vl.rb]; rfl
theorem str_ev (t : ByteArray) : D 57 [.sc (.string t)] = some (strV t).pv := by
  rw [f57_eq 0]; simp only [Vl.fold]; rw [made_ev]; simp [Vl.rb]; rfl
theorem bad_ev (c : Int) : D 59 [.sc (.int .i64 c)] = some (badV c).pv := by
  rw [f59_eq 0]; simp only [Vl.fold]; rw [made_ev]; simp [Vl.rb]; rfl
theorem bool_ev (b : Bool) : D 60 [.sc (.bool b)] = some (boolV b).pv := by
  rw [f60_eq 0]; cases b <;> rfl
def gotV (x : Int) (b : Bool) : Vl := if b then numV x else badV 4
theorem em_E : em E = true := by simp [em]
theorem rbad_ev (c : Int) : D 67 [.sc (.int .i64 c)] = some (badV c).pv := by
  rw [f67_eq 0]
  simp only [Vl.fold, badV, madeV, mayV, em_E]
  by_cases h1 : c < 1
  · have : ¬ 1 ≤ c := by omega
    simp [h1, this]
  · by_cases h2 : c > 7
    · have : ¬ c ≤ 7 := by omega
      simp [h1, h2, this]
    · have a : 1 ≤ c := by omega
      have b : c ≤ 7 := by omega
      simp [h1, h2, a, b]
theorem bad_4 : badV 4 = ⟨4, 4, E⟩ := by simp [badV, madeV, mayV, em_E]
theorem bad_2 : badV 2 = ⟨4, 2, E⟩ := by simp [badV, madeV, mayV, em_E]
theorem rnum_ev (x : Int) (h : -9223372036854775808 ≤ x) : D 65 [.sc (.int .i64 x)] = some (numV x).pv := by
  rw [f65_eq 0, f56_eq 0, rbad_ev]
  simp only [Vl.fold, numV, madeV, mayV, em_E]
  by_cases h2 : x = -9223372036854775808
  · subst h2; simp [Vl.rb, bad_4]
  · have : -9223372036854775807 ≤ x := by omega
    simp [h2, this]
theorem rstr_ev (t : ByteArray) : D 68 [.sc (.string t)] = some (strV t).pv := by
  rw [f68_eq 0, rbad_ev]
  simp only [Vl.fold, strV, madeV, mayV, em_E]
  by_cases h : (t.size : Int) > 256
  · have : ¬ (t.size : Int) ≤ 256 := by omega
    simp only [h, this, Vl.rb]; simp [Vl.rb, bad_2]
  · have : (t.size : Int) ≤ 256 := by omega
    simp [h, this]
theorem rbool_ev (b : Bool) : D 70 [.sc (.bool b)] = some (boolV b).pv := by
  rw [f70_eq 0]; cases b <;> rfl
theorem made_may (v : Vl) (c : Int) (h0 : 1 ≤ c) (h1 : c ≤ 7) : mayV (madeV v c) = true := by
  unfold madeV
  cases h : mayV v
  · simp [mayV, em_E, h0, h1]
  · simp [h]
theorem num_may (x : Int) : mayV (numV x) = true := made_may _ _ (by decide) (by decide)
theorem str_may (t : ByteArray) : mayV (strV t) = true := made_may _ _ (by decide) (by decide)
theorem bad_may (c : Int) : mayV (badV c) = true := made_may _ _ (by decide) (by decide)
theorem bool_may (b : Bool) : mayV (boolV b) = true := by cases b <;> simp [mayV, boolV, em_E]
theorem got_may (x : Int) (b : Bool) : mayV (gotV x b) = true := by
  unfold gotV; cases b
  · exact bad_may _
  · exact num_may _
def faultT (c : Int) : ByteArray := if c = 1 then ⟨#[35, 68, 73, 86]⟩ else if c = 2 then ⟨#[35, 86, 65, 76, 85, 69]⟩ else if c = 3 then ⟨#[35, 82, 69, 70]⟩ else if c = 4 then ⟨#[35, 78, 85, 77]⟩ else if c = 5 then ⟨#[35, 78, 65]⟩ else if c = 6 then ⟨#[35, 65, 85, 84, 72]⟩ else if c = 7 then ⟨#[35, 67, 89, 67, 76, 69]⟩ else E
theorem fault_ev (c : Int) : D 71 [.sc (.int .i64 c)] = some (.sc (.string (faultT c))) := by
  rw [f71_eq 0]
  unfold faultT
  simp only [beq_iff_eq]
  repeat' split
  all_goals rfl
theorem rfault_ev (c : Int) : D 72 [.sc (.int .i64 c)] = some (.sc (.string (faultT c))) := by
  by_cases h : 1 ≤ c ∧ c ≤ 7
  · have : c = 1 ∨ c = 2 ∨ c = 3 ∨ c = 4 ∨ c = 5 ∨ c = 6 ∨ c = 7 := by omega
    rcases this with rfl | rfl | rfl | rfl | rfl | rfl | rfl <;> exact denI_of (k := 20) (by kernel_rfl)
  · rw [f72_eq 0]
    unfold faultT
    by_cases h1 : c < 1
    · have a : ¬ c = 1 := by omega
      have a2 : ¬ c = 2 := by omega
      have a3 : ¬ c = 3 := by omega
      have a4 : ¬ c = 4 := by omega
      have a5 : ¬ c = 5 := by omega
      have a6 : ¬ c = 6 := by omega
      have a7 : ¬ c = 7 := by omega
      simp only [h1, a, a2, a3, a4, a5, a6, a7]; rfl
    · have b : c > 7 := by omega
      have a : ¬ c = 1 := by omega
      have a2 : ¬ c = 2 := by omega
      have a3 : ¬ c = 3 := by omega
      have a4 : ¬ c = 4 := by omega
      have a5 : ¬ c = 5 := by omega
      have a6 : ¬ c = 6 := by omega
      have a7 : ¬ c = 7 := by omega
      simp only [h1, b, a, a2, a3, a4, a5, a6, a7]; rfl
theorem em_iff {t : ByteArray} : em t = true ↔ t = E := by
  unfold em
  rw [beq_iff_eq]
  constructor
  · intro h
    obtain ⟨l, rfl⟩ := B_of t
    rw [B_toList, show E = B [] from rfl, B_toList] at h
    rw [h]; rfl
  · rintro rfl; rfl
def truthT (n : Int) : ByteArray := if n = 1 then ⟨#[84, 82, 85, 69]⟩ else ⟨#[70, 65, 76, 83, 69]⟩
/-- A value's text, of one that is no fault. -/
def wordsV (v : Vl) : ByteArray := if v.kind = 1 then B (texS v.num) else if v.kind = 3 then truthT v.num else if v.kind = 0 then E else v.text
def asTextV (v : Vl) : Vl := if v.kind = 0 then strV E else if v.kind = 3 then strV (truthT v.num) else if v.kind = 1 then strV (B (texS v.num)) else v
theorem truth_ev (v : Vl) : D 63 [v.pv] = some (.sc (.string (truthT v.num))) := by
  obtain ⟨k, n, t⟩ := v
  refine (f63_eq 0 k n t).trans ?_
  unfold truthT
  by_cases h : n = 1
  · rw [if_pos (by simp [h]), if_pos h]
  · rw [if_neg (by simp [h]), if_neg h]
theorem asText_ev (v : Vl) (h : I64 v.num) : D 12 [v.pv] = some (asTextV v).pv := by
  have ht := truth_ev v
  obtain ⟨k, n, t⟩ := v
  refine (f12_eq 0 k n t).trans ?_
  simp only [Vl.fold] at ht ⊢
  unfold asTextV
  dsimp only at h ht ⊢
  by_cases h0 : k = 0
  · refine ip (by simp [h0]) (cb (str_ev _) rfl ?_)
    rw [if_pos h0]
    simp only [Vl.c0, Vl.c1, Vl.c2, Vl.rb]
  refine im (by simp [h0]) ?_
  rw [if_neg h0]
  by_cases h3 : k = 3
  · refine ip (by simp [h3]) (cb ht rfl (cb (str_ev _) rfl ?_))
    rw [if_pos h3]
    simp only [Vl.c0, Vl.c1, Vl.c2, Vl.rb, ts]
  refine im (by simp [h3]) ?_
  rw [if_neg h3]
  by_cases h1 : k = 1
  · refine ip (by simp [h1]) (cb (text_ev h) rfl (cb (str_ev _) rfl ?_))
    rw [if_pos h1]
    simp only [Vl.c0, Vl.c1, Vl.c2, Vl.rb, ts]
  · refine im (by simp [h1]) ?_
    rw [if_neg h1]
def truT : ByteArray := ⟨#[84, 82, 85, 69]⟩
def falT : ByteArray := ⟨#[70, 65, 76, 83, 69]⟩
def isT (t u : ByteArray) : Bool := t.toList == u.toList
def asTruthV (v : Vl) : Vl := if v.kind = 0 then boolV false else if v.kind = 1 then boolV (v.num != 0) else if v.kind = 2 then (if (isT v.text truT || isT v.text falT) = true then boolV (isT v.text truT) else badV 2) else v
theorem asTruth_ev (v : Vl) : D 13 [v.pv] = some (asTruthV v).pv := by
  obtain ⟨k, n, t⟩ := v
  refine (f13_eq 0 k n t).trans ?_
  simp only [Vl.fold]
  unfold asTruthV
  dsimp only
  by_cases h0 : k = 0
  · refine ip (by simp [h0]) (cb (bool_ev _) rfl ?_)
    rw [if_pos h0]
    simp only [Vl.c0, Vl.c1, Vl.c2, Vl.rb]
  refine im (by simp [h0]) ?_
  rw [if_neg h0]
  by_cases h1 : k = 1
  · refine ip (by simp [h1]) (cb (bool_ev _) rfl ?_)
    rw [if_pos h1]
    simp only [Vl.c0, Vl.c1, Vl.c2, Vl.rb]
  refine im (by simp [h1]) ?_
  rw [if_neg h1]
  by_cases h2 : k = 2
  · refine ip (by simp [h2]) ?_
    rw [if_pos h2]
    simp only [bO, tb]
    show (if (isT t truT || isT t falT) = true then _ else _) = _
    by_cases h : (isT t truT || isT t falT) = true
    · rw [if_pos h, if_pos h]
      refine cb (bool_ev _) rfl ?_
      simp only [Vl.c0, Vl.c1, Vl.c2, Vl.rb]
      rfl
    · rw [if_neg h, if_neg h]
      refine cb (bad_ev _) rfl ?_
      simp only [Vl.c0, Vl.c1, Vl.c2, Vl.rb]
  · refine im (by simp [h2]) ?_
    rw [if_neg h2]
theorem isT_E : isT E truT = false := by
  show ((B []).toList == (B [84, 82, 85, 69]).toList) = false
  rw [B_toList, B_toList]; rfl
/-- .. and the reference. -/
theorem rasTruth_ev (v : Vl) (h : mayV v = true) : D 16 [v.pv] = some (asTruthV v).pv := by
  obtain ⟨k, n, t⟩ := v
  refine (f16_eq 0 k n t).trans ?_
  simp only [Vl.fold, bO, bA, tb]
  unfold asTruthV
  unfold mayV at h
  dsimp only at h ⊢
  by_cases h0 : k = 0
  · subst h0
    simp only [if_true, Bool.and_eq_true, beq_iff_eq] at h
    obtain ⟨rfl, h⟩ := h
    rw [em_iff] at h
    subst h
    refine im (by decide) (im (by decide) (cb (rbool_ev _) rfl ?_))
    simp only [Vl.c0, Vl.c1, Vl.c2, Vl.rb]
    have e : (E.toList == (⟨#[84, 82, 85, 69]⟩ : ByteArray).toList) = false := isT_E
    rw [e]
    rfl
  rw [if_neg h0] at h ⊢
  by_cases h1 : k = 1
  · subst h1
    simp only [if_true, Bool.and_eq_true] at h
    obtain ⟨_, h⟩ := h
    rw [em_iff] at h
    subst h
    refine im (by decide) (im (by simp) (cb (rbool_ev _) rfl ?_))
    simp only [Vl.c0, Vl.c1, Vl.c2, Vl.rb, if_true]
    have e : (E.toList == (⟨#[84, 82, 85, 69]⟩ : ByteArray).toList) = false := isT_E
    rw [e, Bool.or_false]
  rw [if_neg h1] at h ⊢
  by_cases h2 : k = 2
  · subst h2
    simp only [if_true, Bool.and_eq_true, beq_iff_eq] at h
    obtain ⟨rfl, _⟩ := h
    refine im (by decide) ?_
    simp only [if_true, beq_self_eq_true, Bool.true_and]
    show (if (!isT t truT && !isT t falT) = true then _ else _) = _
    by_cases h : (isT t truT || isT t falT) = true
    · rw [if_neg (by revert h; cases isT t truT <;> cases isT t falT <;> simp), if_pos h]
      refine cb (rbool_ev _) rfl ?_
      simp only [Vl.c0, Vl.c1, Vl.c2, Vl.rb]
      rfl
    · rw [if_pos (by revert h; cases isT t truT <;> cases isT t falT <;> simp), if_neg h]
      refine cb (rbad_ev _) rfl ?_
      simp only [Vl.c0, Vl.c1, Vl.c2, Vl.rb]
  rw [if_neg h2] at h ⊢
  by_cases h3 : k = 3
  · exact ip (by simp [h3]) rfl
  · rw [if_neg h3] at h
    by_cases h4 : k = 4
    · exact ip (by simp [h4]) rfl
    · rw [if_neg h4] at h
      cases h
end Go.Den.EV
