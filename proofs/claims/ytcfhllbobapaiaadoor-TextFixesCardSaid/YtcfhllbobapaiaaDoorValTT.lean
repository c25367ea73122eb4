/- Values: whether they may be, what is made, how they turn. -/
import Derived.Test.YtcfhllbobapaiaaDoorDigTT
set_option linter.unusedVariables false
set_option linter.unusedSimpArgs false
set_option maxRecDepth 100000
namespace Go.Den.ET
open Go Go.Proofs
structure Vl where
  kind : Int
  num : Int
  text : ByteArray
def Vl.pv (v : Vl) : PV := .agg [.sc (.int .i64 v.kind), .sc (.int .i64 v.num), .sc (.string v.text)]
@[simp] theorem Vl.sh (v : Vl) : hasSh (.agg [(.int .i64), (.int .i64), .str]) v.pv = true := rfl
@[simp] theorem Vl.c0 (v : Vl) : (cel 0 v.pv.cells).toInt = v.kind := rfl
@[simp] theorem Vl.c1 (v : Vl) : (cel 1 v.pv.cells).toInt = v.num := rfl
@[simp] theorem Vl.c2 (v : Vl) : (cel 2 v.pv.cells).toStr = v.text := rfl
theorem Vl.fold (k n : Int) (t : ByteArray) : PV.agg [.sc (.int .i64 k), .sc (.int .i64 n), .sc (.string t)] = (Vl.mk k n t).pv := rfl
theorem Vl.rb (v : Vl) : Vl.mk v.kind v.num v.text = v := rfl
abbrev E : ByteArray := ⟨#[]⟩
def em (t : ByteArray) : Bool := t.toList == E.toList
def mayV (v : Vl) : Bool :=
  if v.kind = 0 then v.num == 0 && em v.text else if v.kind = 1 then v.num != -9223372036854775808 && em v.text else if v.kind = 2 then v.num == 0 && decide ((v.text.size : Int) ≤ 256)
  else if v.kind = 3 then (v.num == 0 || v.num == 1) && em v.text else if v.kind = 4 then (decide (v.num ≥ 1) && decide (v.num ≤ 7)) && em v.text else false
theorem em_fold (t : ByteArray) : (t.toList == (⟨#[]⟩ : ByteArray).toList) = em t := rfl
def madeV (v : Vl) (c : Int) : Vl := if mayV v then v else ⟨4, c, E⟩
def numV (x : Int) : Vl := madeV ⟨1, x, E⟩ 4
def strV (t : ByteArray) : Vl := madeV ⟨2, 0, t⟩ 2
def boolV (b : Bool) : Vl := ⟨3, if b then 1 else 0, E⟩
def badV (c : Int) : Vl := madeV ⟨4, c, E⟩ 2
def gotV (x : Int) (b : Bool) : Vl := if b then numV x else badV 4
theorem em_E : em E = true := by simp [em]
theorem bad_4 : badV 4 = ⟨4, 4, E⟩ := by simp [badV, madeV, mayV, em_E]
theorem bad_2 : badV 2 = ⟨4, 2, E⟩ := by simp [badV, madeV, mayV, em_E]
theorem made_may (v : Vl) (c : Int) (h0 : 1 ≤ c) (h1 : c ≤ 7) : mayV (madeV v c) = true := by
  unfold madeV
  cases h : mayV v
  · simp [mayV, em_E, h0, h1]
  · simp [h]
theorem num_may (x : Int) : mayV (numV x) = true := made_may _ _ (by decide) (by decide)
theorem str_may (t : ByteArray) : mayV (strV t) = true := made_may _ _ (by decide) (by decide)
theorem bad_may (c : Int) : mayV (badV c) = true := made_may _ _ (by decide) (by decide)
theorem bool_may (b : Bool) : mayV (boolV b) = true := by cases b <;> simp [mayV, boolV, em_E]
theorem got_may (x : Int) (b : Bool) : mayV (gotV x b) = true := by
  unfold gotV; cases b
  · exact bad_may _
  · exact num_may _
def faultT (c : Int) : ByteArray := if c = 1 then ⟨#[35, 68, 73, 86]⟩ else if c = 2 then ⟨#[35, 86, 65, 76, 85, 69]⟩ else if c = 3 then ⟨#[35, 82, 69, 70]⟩ else if c = 4 then ⟨#[35, 78, 85, 77]⟩ else if c = 5 then ⟨#[35, 78, 65]⟩ else if c = 6 then ⟨#[35, 65, 85, 84, 72]⟩ else if c = 7 then ⟨#[35, 67, 89, 67, 76, 69]⟩ else E
theorem em_iff {t : ByteArray} : em t = true ↔ t = E := by
  unfold em
  rw [beq_iff_eq]
  constructor
  · intro h
    obtain ⟨l, rfl⟩ := B_of t
    rw [B_toList, show E = B [] from rfl, B_toList] at h
    rw [h]; rfl
  · rintro rfl; rfl
def truthT (n : Int) : ByteArray := if n = 1 then ⟨#[84, 82, 85, 69]⟩ else ⟨#[70, 65, 76, 83, 69]⟩
/-- A value's text, of one that is no fault. -/
def wordsV (v : Vl) : ByteArray := if v.kind = 1 then B (texS v.num) else if v.kind = 3 then truthT v.num else if v.kind = 0 then E else v.text
def asTextV (v : Vl) : Vl := if v.kind = 0 then strV E else if v.kind = 3 then strV (truthT v.num) else if v.kind = 1 then strV (B (texS v.num)) else v
def truT : ByteArray := ⟨#[84, 82, 85, 69]⟩
def falT : ByteArray := ⟨#[70, 65, 76, 83, 69]⟩
def isT (t u : ByteArray) : Bool := t.toList == u.toList
def asTruthV (v : Vl) : Vl := if v.kind = 0 then boolV false else if v.kind = 1 then boolV (v.num != 0) else if v.kind = 2 then (if (isT v.text truT || isT v.text falT) = true then boolV (isT v.text truT) else badV 2) else v
theorem isT_E : isT E truT = false := by
  show ((B []).toList == (B [84, 82, 85, 69]).toList) = false
  rw [B_toList, B_toList]; rfl
end Go.Den.ET
