/- Values: whether they may be, and what is made. -/
import Derived.Test.YtcncojlgapknpaaDoorEVx0
import Derived.Test.YtcncojlgapknpaaDoorEVx1
import Derived.Test.YtcncojlgapknpaaDoorEVx2
import Derived.Test.YtcncojlgapknpaaDoorDenV
import Derived.Test.YtcncojlgapknpaaDoorTyV
set_option linter.unusedVariables false
set_option linter.unusedSimpArgs false
set_option maxRecDepth 100000
namespace Go.Den.EV
open Go Go.Proofs
structure Vl where
  kind : Int
  num : Int
  text : ByteArray
def Vl.pv (v : Vl) : PV := .agg [.sc (.int .i64 v.kind), .sc (.int .i64 v.num), .sc (.string v.text)]
@[simp] theorem Vl.sh (v : Vl) : hasSh (.agg [(.int .i64), (.int .i64), .str]) v.pv = true := rfl
@[simp] theorem Vl.c0 (v : Vl) : (cel 0 v.pv.cells).toInt = v.kind := rfl
@[simp] theorem Vl.c1 (v : Vl) : (cel 1 v.pv.cells).toInt = v.num := rfl
@[simp] theorem Vl.c2 (v : Vl) : (cel 2 v.pv.cells).toStr = v.text := rfl
theorem Vl.fold (k n : Int) (t : ByteArray) : PV.agg [.sc (.int .i64 k), .sc (.int .i64 n), .sc (.string t)] = (Vl.mk k n t).pv := rfl
theorem Vl.rb (v : Vl) : Vl.mk v.kind v.num v.text = v := rfl
abbrev E : ByteArray := ⟨#[]⟩
def em (t : ByteArray) : Bool := t.toList == E.toList
def mayV (v : Vl) : Bool :=
  if v.kind = 0 then v.num == 0 && em v.text else if v.kind = 1 then v.num != -9223372036854775808 && em v.text else if v.kind = 2 then v.num == 0 && decide ((v.text.size : Int) ≤ 256)
  else if v.kind = 3 then (v.num == 0 || v.num == 1) && em v.text else if v.kind = 4 then (decide (v.num ≥ 1) && decide (v.num ≤ 7)) && em v.text else false
theorem em_fold (t : ByteArray) : (t.toList == (⟨#[]⟩ : ByteArray).toList) = em t := rfl
theorem may_ev (v : Vl) : D 31 [v.pv] = some (.sc (.bool (mayV v))) := by
  obtain ⟨k, n, t⟩ := v
  unfold Vl.pv
  simp only []
  rw [f31_eq 0, f69_eq 0]
  simp only [em_fold, mayV]
  by_cases h0 : k = 0
  · subst h0
    by_cases h1 : n = 0 <;> simp [h1]
  by_cases h1 : k = 1
  · subst h1
    cases hb : (n != -9223372036854775808) <;> simp [hb]
  by_cases h2 : k = 2
  · subst h2
    by_cases h1 : n = 0 <;> simp [h1]
  by_cases h3 : k = 3
  · subst h3
    by_cases h1 : n = 0
    · simp [h1]
    · by_cases h2 : n = 1 <;> simp [h1, h2]
  by_cases h4 : k = 4
  · subst h4
    by_cases h1 : 1 ≤ n
    · by_cases h2 : n ≤ 7 <;> simp [h1, h2]
    · simp [h1]
  simp [h0, h1, h2, h3, h4]
theorem rmay_ev (v : Vl) (h : -9223372036854775808 ≤ v.num) : D 32 [v.pv] = some (.sc (.bool (mayV v))) := by
  obtain ⟨k, n, t⟩ := v
  unfold Vl.pv
  simp only [] at h ⊢
  rw [f32_eq 0, f70_eq 0]
  simp only [em_fold, mayV]
  by_cases h0 : k = 0
  · subst h0
    cases em t <;> by_cases h1 : n = 0 <;> simp [h1]
  by_cases h1 : k = 1
  · subst h1
    have e : (n != -9223372036854775808) = decide (n ≥ -9223372036854775807) := by
      by_cases h2 : n = -9223372036854775808
      · subst h2; decide
      · have : n ≥ -9223372036854775807 := by omega
        simp [h2, this]
    rw [e]
    cases em t <;> by_cases h1 : -9223372036854775807 ≤ n <;> simp [h1]
  by_cases h2 : k = 2
  · subst h2
    by_cases h1 : n = 0 <;> by_cases h3 : (t.size : Int) ≤ 256 <;> simp [h1, h3]
  by_cases h3 : k = 3
  · subst h3
    by_cases h1 : n = 0
    · cases em t <;> simp [h1]
    · by_cases h2 : n = 1 <;> cases em t <;> simp [h1, h2]
  by_cases h4 : k = 4
  · subst h4
    by_cases h1 : 1 ≤ n
    · by_cases h2 : n ≤ 7 <;> cases em t <;> simp [h1, h2]
    · cases em t <;> simp [h1]
  simp [h0, h1, h2, h3, h4]
def madeV (v : Vl) (c : Int) : Vl := if mayV v then v else ⟨4, c, E⟩
theorem made_ev (v : Vl) (c : Int) : D 68 [v.pv, .sc (.int .i64 c)] = some (madeV v c).pv := by
  have h := may_ev v
  obtain ⟨k, n, t⟩ := v
  have e := f68_eq 0 k n t c
  simp only [Vl.fold] at e
  rw [e, h]
  unfold madeV
  cases mayV ⟨k, n, t⟩ <;> simp
def numV (x : Int) : Vl := madeV ⟨1, x, E⟩ 4
def strV (t : ByteArray) : Vl := madeV ⟨2, 0, t⟩ 2
def boolV (b : Bool) : Vl := ⟨3, if b then 1 else 0, E⟩
def badV (c : Int) : Vl := madeV ⟨4, c, E⟩ 2
theorem num_ev (x : Int) : D 26 [.sc (.int .i64 x)] = some (numV x).pv := by
  rw [f26_eq 0]; simp only [Vl.fold]; rw [made_ev]; simp [Vl.rb]; rfl
theorem str_ev (t : ByteArray) : D 27 [.sc (.string t)] = some (strV t).pv := by
  rw [f27_eq 0]; simp only [Vl.fold]; rw [made_ev]; simp [Vl.rb]; rfl
theorem bad_ev (c : Int) : D 29 [.sc (.int .i64 c)] = some (badV c).pv := by
  rw [f29_eq 0]; simp only [Vl.fold]; rw [made_ev]; simp [Vl.rb]; rfl
theorem bool_ev (b : Bool) : D 28 [.sc (.bool b)] = some (boolV b).pv := by
  rw [f28_eq 0]; cases b <;> rfl
def gotV (x : Int) (b : Bool) : Vl := if b then numV x else badV 4
theorem got_ev (x : Int) (b : Bool) : D 30 [.sc (.int .i64 x), .sc (.bool b)] = some (gotV x b).pv := by
  rw [f30_eq 0, bad_ev, num_ev]; simp only [Vl.fold]; cases b <;> simp [gotV, Vl.rb]
theorem em_E : em E = true := by simp [em]
theorem rbad_ev (c : Int) : D 36 [.sc (.int .i64 c)] = some (badV c).pv := by
  rw [f36_eq 0]
  simp only [Vl.fold, badV, madeV, mayV, em_E]
  by_cases h1 : c < 1
  · have : ¬ 1 ≤ c := by omega
    simp [h1, this]
  · by_cases h2 : c > 7
    · have : ¬ c ≤ 7 := by omega
      simp [h1, h2, this]
    · have a : 1 ≤ c := by omega
      have b : c ≤ 7 := by omega
      simp [h1, h2, a, b]
theorem bad_4 : badV 4 = ⟨4, 4, E⟩ := by simp [badV, madeV, mayV, em_E]
theorem bad_2 : badV 2 = ⟨4, 2, E⟩ := by simp [badV, madeV, mayV, em_E]
theorem rnum_ev (x : Int) (h : -9223372036854775808 ≤ x) : D 33 [.sc (.int .i64 x)] = some (numV x).pv := by
  rw [f33_eq 0, f70_eq 0, rbad_ev]
  simp only [Vl.fold, numV, madeV, mayV, em_E]
  by_cases h2 : x = -9223372036854775808
  · subst h2; simp [Vl.rb, bad_4]
  · have : -9223372036854775807 ≤ x := by omega
    simp [h2, this]
theorem rstr_ev (t : ByteArray) : D 34 [.sc (.string t)] = some (strV t).pv := by
  rw [f34_eq 0, rbad_ev]
  simp only [Vl.fold, strV, madeV, mayV, em_E]
  by_cases h : (t.size : Int) > 256
  · have : ¬ (t.size : Int) ≤ 256 := by omega
    simp only [h, this, Vl.rb]; simp [Vl.rb, bad_2]
  · have : (t.size : Int) ≤ 256 := by omega
    simp [h, this]
theorem rbool_ev (b : Bool) : D 35 [.sc (.bool b)] = some (boolV b).pv := by
  rw [f35_eq 0]; cases b <;> rfl
theorem rof_ev (x : Int) (b : Bool) (h : -9223372036854775808 ≤ x) : D 37 [.agg [.sc (.int .i64 x), .sc (.bool b)]] = some (gotV x b).pv := by
  rw [f37_eq 0, rbad_ev, rnum_ev x h]; simp only [Vl.fold]; cases b <;> simp [gotV, Vl.rb]
theorem made_may (v : Vl) (c : Int) (h0 : 1 ≤ c) (h1 : c ≤ 7) : mayV (madeV v c) = true := by
  unfold madeV
  cases h : mayV v
  · simp [mayV, em_E, h0, h1]
  · simp [h]
theorem num_may (x : Int) : mayV (numV x) = true := made_may _ _ (by decide) (by decide)
theorem str_may (t : ByteArray) : mayV (strV t) = true := made_may _ _ (by decide) (by decide)
theorem bad_may (c : Int) : mayV (badV c) = true := made_may _ _ (by decide) (by decide)
theorem bool_may (b : Bool) : mayV (boolV b) = true := by cases b <;> simp [mayV, boolV, em_E]
theorem got_may (x : Int) (b : Bool) : mayV (gotV x b) = true := by
  unfold gotV; cases b
  · exact bad_may _
  · exact num_may _
def faultT (c : Int) : ByteArray := if c = 1 then ⟨#[35, 68, 73, 86]⟩ else if c = 2 then ⟨#[35, 86, 65, 76, 85, 69]⟩ else if c = 3 then ⟨#[35, 82, 69, 70]⟩ else if c = 4 then ⟨#[35, 78, 85, 77]⟩ else if c = 5 then ⟨#[35, 78, 65]⟩ else if c = 6 then ⟨#[35, 65, 85, 84, 72]⟩ else if c = 7 then ⟨#[35, 67, 89, 67, 76, 69]⟩ else E
theorem fault_ev (c : Int) : D 38 [.sc (.int .i64 c)] = some (.sc (.string (faultT c))) := by
  rw [f38_eq 0]
  unfold faultT
  simp only [beq_iff_eq]
  repeat' split
  all_goals rfl
theorem rfault_ev (c : Int) : D 39 [.sc (.int .i64 c)] = some (.sc (.string (faultT c))) := by
  by_cases h : 1 ≤ c ∧ c ≤ 7
  · have : c = 1 ∨ c = 2 ∨ c = 3 ∨ c = 4 ∨ c = 5 ∨ c = 6 ∨ c = 7 := by omega
    rcases this with rfl | rfl | rfl | rfl | rfl | rfl | rfl <;> exact denI_of (k := 20) (by kernel_rfl)
  · rw [f39_eq 0]
    unfold faultT
    by_cases h1 : c < 1
    · have a : ¬ c = 1 := by omega
      have a2 : ¬ c = 2 := by omega
      have a3 : ¬ c = 3 := by omega
      have a4 : ¬ c = 4 := by omega
      have a5 : ¬ c = 5 := by omega
      have a6 : ¬ c = 6 := by omega
      have a7 : ¬ c = 7 := by omega
      simp only [h1, a, a2, a3, a4, a5, a6, a7]; rfl
    · have b : c > 7 := by omega
      have a : ¬ c = 1 := by omega
      have a2 : ¬ c = 2 := by omega
      have a3 : ¬ c = 3 := by omega
      have a4 : ¬ c = 4 := by omega
      have a5 : ¬ c = 5 := by omega
      have a6 : ¬ c = 6 := by omega
      have a7 : ¬ c = 7 := by omega
      simp only [h1, b, a, a2, a3, a4, a5, a6, a7]; rfl
theorem alive_ev : D 25 [] = some (.sc (.bool true)) := denI_of (k := 40) (by kernel_rfl)
theorem same (v : Vl) : (!((v.kind == v.kind) && ((v.num == v.num) && ((v.text.toList == v.text.toList) && true)))) = false := by simp
theorem makes_D (v : Vl) (is : Bool) (c : Int) (h : -9223372036854775808 ≤ v.num) : D 5 [v.pv, .sc (.bool is), .sc (.int .i64 c)] = some (.sc (.bool true)) := by
  have m := may_ev v
  have rm := rmay_ev v h
  obtain ⟨k, n, t⟩ := v
  have e := f5_eq 0 k n t is c
  simp only [Vl.fold] at e
  simp only [] at h
  rw [e, alive_ev]
  simp only [m, rm, num_ev, str_ev, bool_ev, bad_ev, got_ev, rbad_ev, rnum_ev n h, rstr_ev, rbool_ev, rof_ev n is h, bs, Vl.sh, Vl.c0, Vl.c1, Vl.c2, tb, shb, shs, ts, same, if_true, Vl.rb, may_ev, num_may, str_may, bool_may, bad_may, got_may, fault_ev, rfault_ev]
  simp [Vl.rb, may_ev, num_may, str_may, bool_may, bad_may, got_may, fault_ev, rfault_ev]
theorem makes_law (W : World) (vs : List Value) (xs : List PV) (h : Handed Tryd.prog W [34, 4, 3] vs xs) : D 5 xs = some (.sc (.bool true)) := by
  obtain ⟨a, _, _, rfl, ha, h⟩ := handed_cons h
  obtain ⟨b, _, _, rfl, hb, h⟩ := handed_cons h
  obtain ⟨c, _, _, rfl, hc, h⟩ := handed_cons h
  obtain rfl := handed_nil h
  obtain ⟨k, n, t, rfl, _, h1, _⟩ := of34 ha
  obtain ⟨is, rfl⟩ := of4 hb
  obtain ⟨c, rfl, _⟩ := of3 hc
  rw [ag34, on4, on3]
  exact makes_D ⟨k, n, t⟩ is c h1.1
end Go.Den.EV
