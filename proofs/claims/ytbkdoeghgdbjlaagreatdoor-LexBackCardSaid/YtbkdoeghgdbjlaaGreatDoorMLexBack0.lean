/- Texts that LexBack rests on. -/
import Derived.Test.YtbkdoeghgdbjlaaGreatDoorDenV
import Derived.Lib.IndexBytes
import Derived.Lib.IndexMore
import Derived.Lib.ItoaNum
import Derived.Laws.Strings
import Derived.Laws.BitsLemmas
import Derived.Lib.Fields
import Derived.Lib.TrimByte
import Derived.Test.YtbkdoeghgdbjlaaGreatDoorEXx0
import Derived.Test.YtbkdoeghgdbjlaaGreatDoorEXx1
import Derived.Test.YtbkdoeghgdbjlaaGreatDoorEXx2
import Derived.Test.YtbkdoeghgdbjlaaGreatDoorEXx3
import Derived.Test.YtbkdoeghgdbjlaaGreatDoorEXx4
import Derived.Lib.Replace
/- Decimals as texts: the plain part. -/
namespace Go.Den
open Go Go.RowKit Go.Proofs
set_option linter.unusedVariables false
set_option linter.unusedSimpArgs false
theorem u64w (x : Int) : IntKind.u64.wrap x = x % 18446744073709551616 := by
  simp [IntKind.wrap, IntKind.bits, IntKind.signed]
theorem u64i {x : Int} (h0 : 0 ≤ x) (h : x < 18446744073709551616) : IntKind.u64.wrap x = x := by
  rw [u64w]; omega
theorem and32 {a : Int} (h0 : 0 ≤ a) (h1 : a < 18446744073709551616) : Go.bits .and .u64 a 4294967295 = a % 4294967296 :=
  bits_mask .u64 64 (by decide) (fun n h0 h1 => u64i h0 (by simpa using h1)) 32 (by decide) a h0 (by simpa using h1)
theorem prodB {x y : Int} (hx0 : 0 ≤ x) (hx : x ≤ 4294967295) (hy0 : 0 ≤ y) (hy : y ≤ 4294967295) : 0 ≤ x * y ∧ x * y ≤ 18446744065119617025 :=
  ⟨Int.mul_nonneg hx0 hy0, Int.le_trans (Int.mul_le_mul hx hy hy0 (by decide)) (by decide)⟩
def B (l : List UInt8) : ByteArray := ⟨l.toArray⟩
theorem B_of (s : ByteArray) : ∃ l, s = B l := ⟨s.data.toList, by rcases s with ⟨⟨l⟩⟩; rfl⟩
theorem B_data (l : List UInt8) : (B l).data.toList = l := rfl
theorem B_size (l : List UInt8) : (B l).size = l.length := rfl
theorem B_append (l m : List UInt8) : B l ++ B m = B (l ++ m) := by
  apply ByteArray.ext
  simp [B]
theorem B_toList (l : List UInt8) : (B l).toList = l := by
  exact ByteArray.toList_eq _
theorem B_inj {l m : List UInt8} : B l = B m ↔ l = m := ⟨fun h => by have := congrArg (fun s : ByteArray => s.data.toList) h; exact this, fun h => by rw [h]⟩
theorem B_extract (l : List UInt8) (i j : Nat) : (B l).extract i j = B ((l.drop i).take (j - i)) := by
  apply ByteArray.ext
  simp [B]
theorem B_bt {l : List UInt8} {i : Nat} (h : i < l.length) : bt (B l) (i : Int) = (l[i].toNat : Int) := by
  unfold bt
  rw [dif_pos (show ((i : Int)).toNat < (B l).size by rw [Int.toNat_natCast]; exact h)]
  rfl
def May (x : Int) : Prop := -9223372036854775808 < x ∧ x ≤ 9223372036854775807
instance (x : Int) : Decidable (May x) := by unfold May; infer_instance
/-- The sign of what three signs give. -/
def sg (a b c q : Int) : Int := if ((decide (a < 0) != decide (b < 0)) != decide (c < 0)) = true then -q else q
theorem natAbs_lt {x : Int} (h : May x) : 0 ≤ (x.natAbs : Int) ∧ (x.natAbs : Int) ≤ 9223372036854775807 := by unfold May at h; omega
theorem abs_prod {a b : Int} (ha : May a) (hb : May b) : 0 ≤ (a.natAbs : Int) * b.natAbs ∧ (a.natAbs : Int) * b.natAbs ≤ 85070591730234615847396907784232501249 :=
  ⟨Int.mul_nonneg (natAbs_lt ha).1 (natAbs_lt hb).1, Int.le_trans (Int.mul_le_mul (natAbs_lt ha).2 (natAbs_lt hb).2 (natAbs_lt hb).1 (by decide)) (by decide)⟩

def I64 (x : Int) : Prop := -9223372036854775808 ≤ x ∧ x ≤ 9223372036854775807
theorem May.i {x : Int} (h : May x) : I64 x := by unfold May at h; unfold I64; omega
def addS (a b : Int) : Int × Bool := if May a ∧ May b ∧ May (a + b) then (a + b, true) else (0, false)
def negS (a : Int) : Int × Bool := if May a then (-a, true) else (0, false)
def subS (a b : Int) : Int × Bool := if May a ∧ May b ∧ May (a - b) then (a - b, true) else (0, false)
theorem addS_yes {a b : Int} (h : May a ∧ May b ∧ May (a + b)) : addS a b = (a + b, true) := if_pos h
theorem addS_no {a b : Int} (h : ¬ May (a + b)) : addS a b = (0, false) := if_neg (fun hh => h hh.2.2)
theorem tdm (a : Int) {m : Int} (hm : 0 < m) : a = a.tdiv m * m + a.tmod m ∧ (0 ≤ a → 0 ≤ a.tmod m ∧ a.tmod m < m) ∧ (a ≤ 0 → -m < a.tmod m ∧ a.tmod m ≤ 0) := by
  refine ⟨(Int.tdiv_mul_add_tmod a m).symm, fun h => ⟨Int.tmod_nonneg _ h, Int.tmod_lt_of_pos _ hm⟩, fun h => ?_⟩
  have h1 := Int.tmod_nonneg m (a := -a) (by omega)
  have h2 := Int.tmod_lt_of_pos (-a) hm
  rw [Int.neg_tmod] at h1 h2
  omega
def mulS (a b : Int) : Int × Bool := if May a ∧ May b ∧ May (a * b) then (a * b, true) else (0, false)
theorem mulS_yes {a b : Int} (h : May a ∧ May b ∧ May (a * b)) : mulS a b = (a * b, true) := if_pos h
theorem mulS_no {a b : Int} (h : ¬ May (a * b)) : mulS a b = (0, false) := if_neg (fun hh => h hh.2.2)
theorem sg_one (a b : Int) : sg a b 1 ((a.natAbs : Int) * b.natAbs) = a * b := by
  unfold sg
  rcases (by omega : a < 0 ∨ 0 ≤ a) with ha | ha <;> rcases (by omega : b < 0 ∨ 0 ≤ b) with hb | hb
  · rw [decide_eq_true ha, decide_eq_true hb, Int.ofNat_natAbs_of_nonpos (by omega), Int.ofNat_natAbs_of_nonpos (by omega)]
    simp [Int.neg_mul_neg]
  · rw [decide_eq_true ha, decide_eq_false (by omega), Int.ofNat_natAbs_of_nonpos (by omega), Int.natAbs_of_nonneg hb]
    simp [Int.neg_mul]
  · rw [decide_eq_false (by omega), decide_eq_true hb, Int.natAbs_of_nonneg ha, Int.ofNat_natAbs_of_nonpos (by omega)]
    simp [Int.mul_neg]
  · rw [decide_eq_false (by omega), decide_eq_false (by omega), Int.natAbs_of_nonneg ha, Int.natAbs_of_nonneg hb]
    simp
theorem mul64_math {a b : Int} (ha0 : 0 ≤ a) (ha : a < 18446744073709551616) (hb0 : 0 ≤ b) (hb : b < 18446744073709551616) :
    ∃ p11 p10 p01 p00 : Int, p11 = (a / 4294967296) * (b / 4294967296) ∧ p10 = (a / 4294967296) * (b % 4294967296) ∧ p01 = (a % 4294967296) * (b / 4294967296) ∧ p00 = (a % 4294967296) * (b % 4294967296)
      ∧ (0 ≤ p11 ∧ p11 ≤ 18446744065119617025) ∧ (0 ≤ p10 ∧ p10 ≤ 18446744065119617025) ∧ (0 ≤ p01 ∧ p01 ≤ 18446744065119617025) ∧ (0 ≤ p00 ∧ p00 ≤ 18446744065119617025)
      ∧ a * b = p11 * 18446744073709551616 + (p10 + p01) * 4294967296 + p00 := by
  refine ⟨_, _, _, _, rfl, rfl, rfl, rfl, prodB (by omega) (by omega) (by omega) (by omega), prodB (by omega) (by omega) (by omega) (by omega), prodB (by omega) (by omega) (by omega) (by omega), prodB (by omega) (by omega) (by omega) (by omega), ?_⟩
  have ea : a = a / 4294967296 * 4294967296 + a % 4294967296 := by omega
  have eb : b = b / 4294967296 * 4294967296 + b % 4294967296 := by omega
  generalize a / 4294967296 = x1 at *
  generalize a % 4294967296 = x0 at *
  generalize b / 4294967296 = y1 at *
  generalize b % 4294967296 = y0 at *
  subst ea eb
  grind

def dc (n : Nat) : UInt8 := UInt8.ofNat (48 + n)
theorem dd_small {n : Nat} (h : n < 10) : Lib.decDigits n = [dc n] := by rw [Lib.decDigits, dif_pos h]; rfl
theorem dd_big {n : Nat} (h : ¬ n < 10) : Lib.decDigits n = Lib.decDigits (n / 10) ++ [dc (n % 10)] := by rw [Lib.decDigits, dif_neg h]; rfl
/-- The digits ahead of the last one. -/
def dg (n : Nat) : List UInt8 := if n = 0 then [] else Lib.decDigits n
theorem dg_step (n : Nat) : dg (n / 10) ++ [dc (n % 10)] = Lib.decDigits n := by
  by_cases h : n < 10
  · rw [dd_small h, dg, if_pos (by omega), List.nil_append, Nat.mod_eq_of_lt h]
  · rw [dd_big h, dg, if_neg (by omega)]
theorem dd_len (d : Nat) : ∀ n, n < 10 ^ (d + 1) → (Lib.decDigits n).length ≤ d + 1 := by
  induction d with
  | zero => intro n h; rw [dd_small (by simpa using h)]; simp
  | succ d ih =>
    intro n h
    by_cases h1 : n < 10
    · rw [dd_small h1]; simp
    · rw [dd_big h1, List.length_append]
      have := ih (n / 10) (by rw [Nat.pow_succ] at h; omega)
      simp
      omega
/-- The parts behind the point: no nought at the end. -/
def fracL : Nat → Nat → List UInt8
  | 0, _ => []
  | d + 1, r => if r = 0 then [] else dc (r / 1000) :: fracL d (r % 1000 * 10)
def fracS (r : Nat) : List UInt8 := if r = 0 then [] else 46 :: fracL 4 r
def texL (x : Int) : List UInt8 := (if x < 0 then [45] else []) ++ Lib.decDigits (x.natAbs / 10000) ++ fracS (x.natAbs % 10000)
def texS (x : Int) : List UInt8 := if May x then texL x else []
theorem head_len {x : Int} (h : May x) : ((if x < 0 then [45] else []) ++ Lib.decDigits (x.natAbs / 10000) : List UInt8).length ≤ 17 := by
  have h1 := dd_len 15 (x.natAbs / 10000) (by unfold May at h; omega)
  rw [List.length_append]
  split <;> simp <;> omega
theorem itoa_nat (n : Nat) : Lib.itoa (n : Int) = Lib.decDigits n := by
  unfold Lib.itoa
  rw [if_neg (by omega), Int.toNat_natCast]
theorem itoa_neg {n : Nat} (h : 0 < n) : Lib.itoa (-(n : Int)) = 45 :: Lib.decDigits n := by
  unfold Lib.itoa
  rw [if_pos (by omega), Int.natAbs_neg, Int.natAbs_natCast]
theorem four {r : Nat} (h : r < 10000) : Lib.decDigits (10000 + r) = [49, dc (r / 1000), dc (r / 100 % 10), dc (r / 10 % 10), dc (r % 10)] := by
  rw [dd_big (by omega), dd_big (by omega), dd_big (by omega), dd_big (by omega), dd_small (by omega)]
  rw [show (10000 + r) / 10 / 10 / 10 / 10 = 1 by omega, show (10000 + r) / 10 / 10 / 10 % 10 = r / 1000 by omega, show (10000 + r) / 10 / 10 % 10 = r / 100 % 10 by omega, show (10000 + r) / 10 % 10 = r / 10 % 10 by omega, show (10000 + r) % 10 = r % 10 by omega]
  rfl
theorem dc_eq {n : Nat} (h : n < 10) : (dc n == 48) = decide (n = 0) := by
  have : ∀ m : Fin 10, (dc m.val == 48) = decide (m.val = 0) := by decide
  exact this ⟨n, h⟩
theorem trim_eq {r : Nat} (h : r < 10000) (h0 : r ≠ 0) : Lib.trimRightB [dc (r / 1000), dc (r / 100 % 10), dc (r / 10 % 10), dc (r % 10)] 48 = fracL 4 r := by
  have e1 := dc_eq (n := r / 1000) (by omega)
  have e2 := dc_eq (n := r / 100 % 10) (by omega)
  have e3 := dc_eq (n := r / 10 % 10) (by omega)
  have e4 := dc_eq (n := r % 10) (by omega)
  have s1 : fracL 4 r = dc (r / 1000) :: fracL 3 (r % 1000 * 10) := by rw [fracL, if_neg h0]
  have s2 : r % 1000 * 10 ≠ 0 → fracL 3 (r % 1000 * 10) = dc (r / 100 % 10) :: fracL 2 (r % 100 * 100) := fun hh => by
    rw [fracL, if_neg hh, show r % 1000 * 10 / 1000 = r / 100 % 10 by omega, show r % 1000 * 10 % 1000 * 10 = r % 100 * 100 by omega]
  have s3 : r % 100 * 100 ≠ 0 → fracL 2 (r % 100 * 100) = dc (r / 10 % 10) :: fracL 1 (r % 10 * 1000) := fun hh => by
    rw [fracL, if_neg hh, show r % 100 * 100 / 1000 = r / 10 % 10 by omega, show r % 100 * 100 % 1000 * 10 = r % 10 * 1000 by omega]
  have s4 : r % 10 * 1000 ≠ 0 → fracL 1 (r % 10 * 1000) = [dc (r % 10)] := fun hh => by
    rw [fracL, if_neg hh, show r % 10 * 1000 / 1000 = r % 10 by omega]; rfl
  have z : ∀ d, fracL d 0 = [] := fun d => by cases d <;> simp [fracL]
  rw [s1]
  unfold Lib.trimRightB
  simp only [List.reverse_cons, List.reverse_nil, List.nil_append, List.cons_append]
  by_cases h4 : r % 10 = 0
  · rw [List.dropWhile_cons_of_pos (by rw [e4]; exact decide_eq_true h4)]
    by_cases h3 : r / 10 % 10 = 0
    · rw [List.dropWhile_cons_of_pos (by rw [e3]; exact decide_eq_true h3)]
      by_cases h2 : r / 100 % 10 = 0
      · rw [List.dropWhile_cons_of_pos (by rw [e2]; exact decide_eq_true h2), List.dropWhile_cons_of_neg (by rw [e1]; simp; omega), show r % 1000 * 10 = 0 by omega, z]
        rfl
      · rw [List.dropWhile_cons_of_neg (by rw [e2]; simp; omega), s2 (by omega), show r % 100 * 100 = 0 by omega, z]
        rfl
    · rw [List.dropWhile_cons_of_neg (by rw [e3]; simp; omega), s2 (by omega), s3 (by omega), show r % 10 * 1000 = 0 by omega, z]
      rfl
  · rw [List.dropWhile_cons_of_neg (by rw [e4]; simp; omega), s2 (by omega), s3 (by omega), s4 (by omega)]
    rfl
theorem rest_of {x : Int} (h : May x) : x.tmod 10000 = (if x < 0 then -((x.natAbs % 10000 : Nat) : Int) else ((x.natAbs % 10000 : Nat) : Int)) := by
  have t := tdm x (m := 10000) (by decide)
  split <;> omega
def isD (b : UInt8) : Bool := decide (48 ≤ b.toNat) && decide (b.toNat ≤ 57)
def valL : List UInt8 → Nat → Nat
  | [], n => n
  | b :: l, n => valL l (n * 10 + (b.toNat - 48))
theorem valL_ge : ∀ (l : List UInt8) (n : Nat), n ≤ valL l n
  | [], n => Nat.le_refl _
  | b :: l, n => Nat.le_trans (by omega) (valL_ge l _)
def numS (w : List UInt8) : Int × Bool := if w ≠ [] ∧ w.all isD = true ∧ (valL w 0 : Int) ≤ 9223372036854775807 then ((valL w 0 : Int), true) else (0, false)
def minusL (l : List UInt8) : Bool := Lib.hasPrefix l [45]
def bodyL (l : List UInt8) : List UInt8 := Lib.trimPrefix l [45]
/-- Ahead of the first point, behind it, is there one? -/
def cutL : List UInt8 → List UInt8 × List UInt8 × Bool
  | [] => ([], [], false)
  | b :: l => if b = 46 then ([], l, true) else (b :: (cutL l).1, (cutL l).2.1, (cutL l).2.2)
theorem idx_range : ∀ (l : List UInt8) (c : UInt8), -1 ≤ Lib.indexByte l c ∧ Lib.indexByte l c < (l.length : Int)
  | [], c => by unfold Lib.indexByte; simp
  | b :: l, c => by
    have := idx_range l c
    unfold Lib.indexByte
    simp only [List.length_cons]
    split
    · omega
    · split <;> omega
theorem cut_eq (l : List UInt8) : Lib.cut l [46] = cutL l := by
  unfold Lib.cut
  rw [Lib.index_one]
  induction l with
  | nil => rfl
  | cons b l ih =>
    have ei : Lib.indexByte (b :: l) 46 = if (b == 46) = true then 0 else if (Lib.indexByte l 46 == -1) = true then -1 else Lib.indexByte l 46 + 1 := by rw [Lib.indexByte]
    rw [cutL]
    by_cases hb : b = 46
    · rw [if_pos (by simp [hb])] at ei
      rw [ei, if_pos (by decide), if_pos hb]
      rfl
    · rw [if_neg (by simp [hb])] at ei
      have hr := idx_range l 46
      rw [if_neg hb]
      generalize Lib.indexByte (b :: l) 46 = i at *
      generalize Lib.indexByte l 46 = j at *
      by_cases hj : j = -1
      · subst hj
        rw [if_pos (by decide)] at ei
        subst ei
        rw [if_neg (by decide)] at ih
        rw [if_neg (by decide), ← ih]
      · obtain ⟨n, rfl⟩ : ∃ n : Nat, j = n := ⟨j.toNat, by omega⟩
        rw [if_neg (by simp)] at ei
        subst ei
        rw [if_pos (by omega)] at ih
        rw [if_pos (by omega), ← ih, show ((n : Int) + 1).toNat = n + 1 by omega, Int.toNat_natCast]
        simp
/-- Ten-thousandths. -/
def totL (c : List UInt8 × List UInt8 × Bool) : Nat := valL c.1 0 * 10000 + valL c.2.1 0 * 10 ^ (4 - c.2.1.length)
def rightL (c : List UInt8 × List UInt8 × Bool) : Prop := c.1 ≠ [] ∧ c.1.all isD = true ∧ (c.2.2 = true → c.2.1 ≠ [] ∧ c.2.1.all isD = true ∧ c.2.1.length ≤ 4) ∧ (totL c : Int) ≤ 9223372036854775807
instance (c : List UInt8 × List UInt8 × Bool) : Decidable (rightL c) := by unfold rightL; infer_instance
def readL (l : List UInt8) : Int × Bool :=
  if l.length ≤ 40 ∧ rightL (cutL (bodyL l)) then (if minusL l = true then -(totL (cutL (bodyL l)) : Int) else (totL (cutL (bodyL l)) : Int), true) else (0, false)
theorem cut_len : ∀ l : List UInt8, (cutL l).1.length ≤ l.length ∧ (cutL l).2.1.length ≤ l.length ∧ ((cutL l).2.2 = false → (cutL l).2.1 = [])
  | [] => ⟨Nat.le_refl _, Nat.le_refl _, fun _ => rfl⟩
  | b :: l => by
    obtain ⟨h1, h2, h3⟩ := cut_len l
    unfold cutL
    by_cases hb : b = 46
    · rw [if_pos hb]
      exact ⟨Nat.zero_le _, by simp, fun h => by cases h⟩
    · rw [if_neg hb]
      exact ⟨by simp; omega, by simp; omega, h3⟩
theorem pow_next {e : Nat} : 10 ^ (e + 1) = 10 ^ e * 10 := Nat.pow_succ ..
theorem val_lt : ∀ (l : List UInt8) (n : Nat), l.all isD = true → valL l n + 1 ≤ (n + 1) * 10 ^ l.length
  | [], n, _ => by simp [valL]
  | b :: l, n, h => by
    rw [List.all_cons, Bool.and_eq_true] at h
    have hb : b.toNat - 48 ≤ 9 := by
      have := h.1
      unfold isD at this
      simp at this
      omega
    have := val_lt l (n * 10 + (b.toNat - 48)) h.2
    rw [valL, List.length_cons, Nat.pow_succ]
    refine Nat.le_trans this ?_
    rw [Nat.mul_comm (10 ^ l.length) 10, ← Nat.mul_assoc]
    exact Nat.mul_le_mul_right _ (by omega)
theorem body_len (l : List UInt8) : (bodyL l).length ≤ l.length := by
  unfold bodyL Lib.trimPrefix
  split
  · rw [List.length_drop]; omega
  · exact Nat.le_refl _
theorem numS_yes {w : List UInt8} (h : w ≠ [] ∧ w.all isD = true ∧ (valL w 0 : Int) ≤ 9223372036854775807) : numS w = ((valL w 0 : Int), true) := if_pos h
theorem numS_no {w : List UInt8} (h : ¬ (w ≠ [] ∧ w.all isD = true ∧ (valL w 0 : Int) ≤ 9223372036854775807)) : numS w = (0, false) := if_neg h
theorem dc_nat {n : Nat} (h : n < 10) : (dc n).toNat = 48 + n := by
  have : ∀ m : Fin 10, (dc m.val).toNat = 48 + m.val := by decide
  exact this ⟨n, h⟩
theorem dc_isD {n : Nat} (h : n < 10) : isD (dc n) = true := by
  unfold isD
  rw [dc_nat h, decide_eq_true (by omega), decide_eq_true (by omega)]; rfl
theorem valL_append : ∀ (l m : List UInt8) (n : Nat), valL (l ++ m) n = valL m (valL l n)
  | [], m, n => rfl
  | b :: l, m, n => by rw [List.cons_append, valL, valL, valL_append l m]
theorem dd_ind (P : Nat → Prop) (h0 : ∀ n, n < 10 → P n) (h1 : ∀ n, ¬ n < 10 → P (n / 10) → P n) : ∀ n, P n := by
  intro n
  induction n using Nat.strongRecOn with
  | _ n ih =>
    by_cases h : n < 10
    · exact h0 n h
    · exact h1 n h (ih (n / 10) (by omega))
theorem dd_val (n : Nat) : valL (Lib.decDigits n) 0 = n := by
  refine dd_ind (fun n => valL (Lib.decDigits n) 0 = n) (fun n h => ?_) (fun n h ih => ?_) n
  · rw [dd_small h, valL, valL, dc_nat h]; omega
  · rw [dd_big h, valL_append, ih, valL, valL, dc_nat (Nat.mod_lt _ (by decide))]; omega
theorem dd_all (n : Nat) : (Lib.decDigits n).all isD = true := by
  refine dd_ind (fun n => (Lib.decDigits n).all isD = true) (fun n h => ?_) (fun n h ih => ?_) n
  · rw [dd_small h, List.all_cons, dc_isD h]; rfl
  · rw [dd_big h, List.all_append, ih, List.all_cons, dc_isD (Nat.mod_lt _ (by decide))]; rfl
theorem dd_ne (n : Nat) : Lib.decDigits n ≠ [] := by
  by_cases h : n < 10
  · rw [dd_small h]; simp
  · rw [dd_big h]; simp
theorem frac_all (d : Nat) : ∀ r, r < 10000 → (fracL d r).all isD = true := by
  induction d with
  | zero => intro r _; rfl
  | succ d ih =>
    intro r h
    rw [fracL]
    split
    · rfl
    · rw [List.all_cons, dc_isD (by omega), ih _ (by omega)]; rfl
theorem frac_len (d : Nat) : ∀ r, (fracL d r).length ≤ d := by
  induction d with
  | zero => intro r; exact Nat.le_refl _
  | succ d ih =>
    intro r
    rw [fracL]
    split
    · exact Nat.zero_le _
    · have := ih (r % 1000 * 10); rw [List.length_cons]; omega
theorem frac_val (d : Nat) : ∀ r m, d ≤ 4 → r < 10000 → r % 10 ^ (4 - d) = 0 → valL (fracL d r) m * 10 ^ (d - (fracL d r).length) = m * 10 ^ d + r / 10 ^ (4 - d) := by
  induction d with
  | zero =>
    intro r m _ h hz
    obtain rfl : r = 0 := by omega
    simp [fracL, valL]
  | succ d ih =>
    intro r m hd h hz
    rw [fracL]
    by_cases h0 : r = 0
    · subst h0
      rw [if_pos rfl]
      simp [valL]
    · rw [if_neg h0, valL, dc_nat (show r / 1000 < 10 by omega), List.length_cons]
      have hz2 : r % 1000 * 10 % 10 ^ (4 - d) = 0 := by
        have hd' : d = 0 ∨ d = 1 ∨ d = 2 ∨ d = 3 := by omega
        rcases hd' with rfl | rfl | rfl | rfl <;> simp at hz ⊢ <;> omega
      have := ih (r % 1000 * 10) (m * 10 + (48 + r / 1000 - 48)) (by omega) (by omega) hz2
      rw [show d + 1 - ((fracL d (r % 1000 * 10)).length + 1) = d - (fracL d (r % 1000 * 10)).length by omega, this]
      have hd' : d = 0 ∨ d = 1 ∨ d = 2 ∨ d = 3 := by omega
      rcases hd' with rfl | rfl | rfl | rfl <;> simp at hz ⊢ <;> omega
/-- Digits ahead of the point, and behind it. -/
def strD (w f : List UInt8) : List UInt8 := w ++ (if f = [] then [] else 46 :: f)
theorem isD_ne {b : UInt8} (h : isD b = true) : b ≠ 46 ∧ b ≠ 45 := by
  constructor <;> (intro e; subst e; revert h; decide)
theorem cut_str {w : List UInt8} (h : w.all isD = true) (f : List UInt8) : cutL (strD w f) = (w, f, f != []) := by
  unfold strD
  induction w with
  | nil =>
    by_cases hf : f = []
    · subst hf; rfl
    · rw [if_neg hf, List.nil_append, cutL, if_pos rfl, show (f != []) = true by simpa using hf]
  | cons b w ih =>
    rw [List.all_cons, Bool.and_eq_true] at h
    rw [List.cons_append, cutL, if_neg (isD_ne h.1).1, ih h.2]
theorem body_str {w : List UInt8} (h : w.all isD = true) (h0 : w ≠ []) (f : List UInt8) : minusL (strD w f) = false ∧ bodyL (strD w f) = strD w f := by
  rcases w with _ | ⟨b, w⟩
  · exact absurd rfl h0
  · rw [List.all_cons, Bool.and_eq_true] at h
    have hb : (b == (45 : UInt8)) = false := beq_eq_false_iff_ne.mpr (isD_ne h.1).2
    have hm : Lib.hasPrefix (strD (b :: w) f) [45] = false := by
      unfold strD
      rw [List.cons_append]
      simp [Lib.hasPrefix, List.isPrefixOf, Ne.symm (isD_ne h.1).2]
    refine ⟨hm, ?_⟩
    unfold bodyL Lib.trimPrefix
    rw [hm]; rfl
theorem body_minus (l : List UInt8) : minusL (45 :: l) = true ∧ bodyL (45 :: l) = l := by
  have hm : Lib.hasPrefix ((45 : UInt8) :: l) [45] = true := by simp [Lib.hasPrefix]
  refine ⟨hm, ?_⟩
  unfold bodyL Lib.trimPrefix
  rw [hm]; rfl
theorem right_str {w f : List UInt8} (h : w.all isD = true) (h0 : w ≠ []) (hf : f.all isD = true) (hl : f.length ≤ 4) {t : Nat} (ht : valL w 0 * 10000 + valL f 0 * 10 ^ (4 - f.length) = t) (hm : (t : Int) ≤ 9223372036854775807) :
    rightL (cutL (strD w f)) ∧ totL (cutL (strD w f)) = t := by
  rw [cut_str h]
  have e : totL (w, f, f != []) = t := ht
  refine ⟨⟨h0, h, fun hh => ⟨by simpa using hh, hf, hl⟩, by rw [e]; exact hm⟩, e⟩
theorem read_str {w f : List UInt8} (h : w.all isD = true) (h0 : w ≠ []) (hf : f.all isD = true) (hl : f.length ≤ 4) (hw : w.length ≤ 30) {t : Nat} (ht : valL w 0 * 10000 + valL f 0 * 10 ^ (4 - f.length) = t) (hm : (t : Int) ≤ 9223372036854775807) :
    readL (strD w f) = ((t : Int), true) ∧ readL (45 :: strD w f) = (-(t : Int), true) := by
  obtain ⟨hr, he⟩ := right_str h h0 hf hl ht hm
  have hs : (strD w f).length ≤ 35 := by
    unfold strD
    rw [List.length_append]
    split
    · simp; omega
    · rw [List.length_cons]; omega
  obtain ⟨b1, b2⟩ := body_str h h0 f
  obtain ⟨c1, c2⟩ := body_minus (strD w f)
  constructor
  · unfold readL
    rw [b2, b1, if_pos ⟨by omega, hr⟩, he]; rfl
  · unfold readL
    rw [c2, c1, if_pos ⟨by rw [List.length_cons]; omega, hr⟩, he]; rfl
theorem frac_nil {r : Nat} : (fracL 4 r = []) ↔ r = 0 := by
  rw [fracL]
  split <;> simp_all
theorem tex_str (x : Int) : texL x = (if x < 0 then [45] else []) ++ strD (Lib.decDigits (x.natAbs / 10000)) (fracL 4 (x.natAbs % 10000)) := by
  unfold texL strD fracS
  rw [List.append_assoc]
  by_cases h : x.natAbs % 10000 = 0
  · rw [if_pos h, if_pos (frac_nil.2 h)]
  · rw [if_neg h, if_neg (fun hh => h (frac_nil.1 hh))]
theorem tex_tot (n : Nat) : valL (Lib.decDigits (n / 10000)) 0 * 10000 + valL (fracL 4 (n % 10000)) 0 * 10 ^ (4 - (fracL 4 (n % 10000)).length) = n := by
  rw [dd_val, frac_val 4 (n % 10000) 0 (by decide) (by omega) (by simp; omega)]
  simp
  omega
theorem dd_len16 {x : Int} (h : May x) (hx : I64 x) : (Lib.decDigits (x.natAbs / 10000)).length ≤ 15 := dd_len 14 _ (by unfold May at h; unfold I64 at hx; omega)
theorem read_tex {x : Int} (h : May x) (hx : I64 x) : readL (texL x) = (x, true) := by
  have hl := dd_len16 h hx
  have hm : ((x.natAbs : Nat) : Int) ≤ 9223372036854775807 := by unfold May at h; unfold I64 at hx; omega
  obtain ⟨h1, h2⟩ := read_str (dd_all _) (dd_ne _) (frac_all 4 (x.natAbs % 10000) (by omega)) (frac_len 4 _) (by omega) (tex_tot x.natAbs) hm
  rw [tex_str]
  by_cases h0 : x < 0
  · rw [if_pos h0, List.singleton_append, h2, show -((x.natAbs : Nat) : Int) = x by omega]
  · rw [if_neg h0, List.nil_append, h1, show ((x.natAbs : Nat) : Int) = x by omega]
theorem read_texS {x : Int} (hx : I64 x) : readL (texS x) = (if May x then (x, true) else (0, false)) := by
  unfold texS
  split
  · exact read_tex (by assumption) hx
  · decide
def parseL (l : List UInt8) : Int × Bool := if (readL l).2 = true ∧ texS (readL l).1 = l then ((readL l).1, true) else (0, false)
theorem read_ok {l : List UInt8} : I64 (readL l).1 ∧ ((readL l).2 = true → May (readL l).1) := by
  unfold readL
  by_cases hh : l.length ≤ 40 ∧ rightL (cutL (bodyL l))
  · rw [if_pos hh]
    have := hh.2.2.2.2
    generalize totL (cutL (bodyL l)) = t at *
    unfold I64 May
    dsimp only
    split <;> omega
  · rw [if_neg hh]
    unfold I64
    exact ⟨by dsimp only; omega, fun h => by cases h⟩
theorem parse_texS {x : Int} (hx : I64 x) : parseL (texS x) = (if May x then (x, true) else (0, false)) := by
  unfold parseL
  rw [read_texS hx]
  by_cases h : May x
  · rw [if_pos h, if_pos ⟨rfl, rfl⟩]
  · rw [if_neg h, if_neg (fun hh => by cases hh.1)]
end Go.Den
/- Decimals as texts: what the program's functions, and the reference's digits, answer. -/
set_option linter.unusedVariables false
set_option linter.unusedSimpArgs false
set_option maxRecDepth 100000
namespace Go.Den.EX
open Go Go.Proofs
def pvG (g : Int × Bool) : PV := .tup [.sc (.int .i64 g.1), .sc (.bool g.2)]
theorem pvG_sh (g : Int × Bool) : hasSh (.tup [(.int .i64), .bool]) (pvG g) = true := rfl
theorem pvG_0 (g : Int × Bool) : (cel 0 (pvG g).parts).toInt = g.1 := rfl
theorem pvG_1 (g : Int × Bool) : (cel 1 (pvG g).parts).toBool = g.2 := rfl
theorem pvG_fold (a : Int) (b : Bool) : PV.tup [.sc (.int .i64 a), .sc (.bool b)] = pvG (a, b) := rfl
theorem may_ev {x : Int} (h : I64 x) : D 106 [.sc (.int .i64 x)] = some (.sc (.bool (decide (May x)))) := by
  rw [f106_eq 0]
  congr 3
  rw [Bool.eq_iff_iff, bne_iff_ne, decide_eq_true_iff]
  unfold I64 at h
  unfold May; omega
theorem units_ev {x : Int} (h : I64 x) : D 108 [.sc (.int .i64 x)] = some (.sc (.int .i64 (if May x then x.tdiv 10000 else 0))) := by
  rw [f108_eq 0]
  refine cb (may_ev h) rfl ?_
  simp only [tb]
  have t := tdm x (m := 10000) (by decide)
  unfold I64 at h
  by_cases hm : May x
  · rw [if_pos hm, decide_eq_true hm]
    refine im (by decide) ?_
    rw [w64 (by omega) (by omega)]
  · rw [if_neg hm, decide_eq_false hm]
    exact ip (by decide) rfl
theorem format_ev {n : Int} (h : I64 n) : D 107 [.sc (.int .i64 n), .sc (.int .i64 10)] = some (.sc (.string (B (Lib.itoa n)))) := by
  have e : D 107 [.sc (.int .i64 n), .sc (.int .i64 10)] = xFormatInt [.sc (.int .i64 n), .sc (.int .i64 10)] := (denI_eq 0 _ _).trans (by kernel_rfl)
  rw [e]
  unfold xFormatInt
  exact if_pos ⟨rfl, h.1, h.2⟩
theorem trimr_ev {l : List UInt8} (h : l.length ≤ 1000000) : D 109 [.sc (.string (B l)), .sc (.string (⟨#[48]⟩ : ByteArray))] = some (.sc (.string (B (Lib.trimRightB l 48)))) := by
  have e : D 109 [.sc (.string (B l)), .sc (.string (⟨#[48]⟩ : ByteArray))] = xTrimRight [.sc (.string (B l)), .sc (.string (⟨#[48]⟩ : ByteArray))] := (denI_eq 0 _ _).trans (by kernel_rfl)
  rw [e]
  unfold xTrimRight
  exact if_pos ⟨rfl, by decide, by rw [B_size]; omega⟩
theorem text_j {x : Int} (h : May x) {l : List UInt8} (hl : l.length ≤ 17) : f64.j0a 0 x (B l) = some (.sc (.string (B (l ++ fracS (x.natAbs % 10000))))) := by
  rw [f64.j0a_eq]
  have e := rest_of h
  have hr : x.natAbs % 10000 < 10000 := Nat.mod_lt _ (by decide)
  generalize x.natAbs % 10000 = r at *
  have em : IntKind.i64.wrap ((10000 : Int) + (if IntKind.i64.wrap (0 - (x.tmod 10000)) > x.tmod 10000 then IntKind.i64.wrap (0 - (x.tmod 10000)) else x.tmod 10000)) = ((10000 + r : Nat) : Int) := by
    rw [e]
    split
    · rw [w64 (x := 0 - -(r : Int)) (by omega) (by omega)]
      rw [w64 (by split <;> omega) (by split <;> omega)]
      split <;> omega
    · rw [w64 (x := 0 - (r : Int)) (by omega) (by omega)]
      rw [w64 (by split <;> omega) (by split <;> omega)]
      split <;> omega
  unfold fracS
  by_cases h0 : r = 0
  · refine ip (by rw [e, h0]; split <;> rfl) ?_
    rw [if_pos h0, List.append_nil]
  · refine im (by rw [e, beq_iff_eq]; split <;> omega) ?_
    rw [em, if_neg h0]
    refine cb (format_ev (by unfold I64; omega)) rfl ?_
    rw [itoa_nat, four hr]
    simp only [ts]
    refine ip (by rw [B_size]; exact Int.natCast_nonneg _) (ip (Int.le_refl _) (ip (by rw [B_size]; simp) (ip (by rw [B_size]; omega) ?_)))
    rw [B_extract]
    refine cb (trimr_ev (by rw [List.length_take, List.length_drop]; simp only [List.length_cons, List.length_nil]; omega)) rfl ?_
    rw [show (List.take (((B [49, dc (r / 1000), dc (r / 100 % 10), dc (r / 10 % 10), dc (r % 10)]).size : Int).toNat - 1) (List.drop 1 [49, dc (r / 1000), dc (r / 100 % 10), dc (r / 10 % 10), dc (r % 10)])) = [dc (r / 1000), dc (r / 100 % 10), dc (r / 10 % 10), dc (r % 10)] from rfl, trim_eq hr h0]
    have hf : (fracL 4 r).length ≤ 4 := frac_len 4 r
    have e46 : (⟨#[46]⟩ : ByteArray) = B [46] := rfl
    refine ip (by simp only [ts, e46, B_append, B_size]; simp; omega) ?_
    simp only [ts, e46, B_append]
    rw [List.append_assoc]
    rfl
theorem text_ev {x : Int} (hx : I64 x) : D 64 [.sc (.int .i64 x)] = some (.sc (.string (B (texS x)))) := by
  rw [f64_eq 0]
  refine cb (may_ev hx) rfl ?_
  simp only [tb]
  unfold texS
  by_cases h : May x
  · rw [if_pos h, decide_eq_true h]
    have hm := h
    unfold May at hm
    have t := tdm x (m := 10000) (by decide)
    refine im (by decide) (cb (units_ev hx) rfl ?_)
    rw [if_pos h]
    simp only [ti]
    refine cb (format_ev (by unfold I64 at *; omega)) rfl ?_
    have hl := head_len h
    unfold texL
    simp only [bA, tb, ts]
    by_cases h0 : x < 0
    · rw [if_pos h0] at hl ⊢
      by_cases h1 : x > -10000
      · rw [show x.tdiv 10000 = ((0 : Nat) : Int) by omega, itoa_nat, show x.natAbs / 10000 = 0 by omega]
        rw [show x.natAbs / 10000 = 0 by omega] at hl
        refine ip (by simp; omega) (ip (by rw [B_size]; simp at hl ⊢; omega) ?_)
        rw [show (⟨#[45]⟩ : ByteArray) = B [45] from rfl, B_append]
        exact text_j h hl
      · have hq : 0 < x.natAbs / 10000 := by omega
        rw [show x.tdiv 10000 = -((x.natAbs / 10000 : Nat) : Int) by omega, itoa_neg hq]
        refine im (by simp; omega) ?_
        exact text_j h hl
    · rw [if_neg h0] at hl ⊢
      rw [show x.tdiv 10000 = ((x.natAbs / 10000 : Nat) : Int) by omega, itoa_nat]
      refine im (by simp; omega) ?_
      exact text_j h hl
  · rw [if_neg h, decide_eq_false h]
    exact ip (by decide) rfl
/-- A count's text. -/
theorem count_ev {n : Int} (h0 : 0 ≤ n) (h1 : n ≤ 1000000000) : D 64 [.sc (.int .i64 (IntKind.i64.wrap (n * 10000)))] = some (.sc (.string (B (Lib.decDigits n.toNat)))) := by
  rw [w64 (by omega) (by omega), text_ev (by unfold I64; omega)]
  unfold texS
  rw [if_pos (by unfold May; omega)]
  unfold texL fracS
  rw [if_neg (by omega), if_pos (by omega), List.append_nil, List.nil_append, show (n * 10000).natAbs / 10000 = n.toNat by omega]
theorem digit_str (n : Nat) : bytesOf [PV.sc (.int .u8 (IntKind.u8.wrap (IntKind.i64.wrap ((48 : Int) + ((n : Int).tmod 10)))))] = B [dc (n % 10)] := by
  have e : Int.tmod (n : Int) 10 = ((n % 10 : Nat) : Int) := by rw [Int.tmod_eq_emod_of_nonneg (by omega)]; omega
  have h : n % 10 < 10 := Nat.mod_lt _ (by decide)
  have e8 : IntKind.u8.wrap ((48 + n % 10 : Nat) : Int) = ((48 + n % 10 : Nat) : Int) := by
    simp [IntKind.wrap, IntKind.bits, IntKind.signed]; omega
  rw [e, w64 (by omega) (by omega), show ((48 : Int) + ((n % 10 : Nat) : Int)) = ((48 + n % 10 : Nat) : Int) by omega, e8]
  rfl
theorem tens (n : Nat) (h : (n : Int) ≤ 9223372036854775807) : IntKind.i64.wrap (Int.tdiv (n : Int) 10) = ((n / 10 : Nat) : Int) := by
  rw [Int.tdiv_eq_ediv_of_nonneg (by omega), w64 (by omega) (by omega)]
  omega
end Go.Den.EX
/- Decimals as texts: which decimal a text means. -/
set_option linter.unusedVariables false
set_option linter.unusedSimpArgs false
set_option maxRecDepth 100000
namespace Go.Den.EX
open Go Go.Proofs
theorem w64h {x : Int} (h0 : 9223372036854775807 < x) (h1 : x ≤ 18446744073709551615) : IntKind.i64.wrap x = x - 18446744073709551616 := by
  simp [IntKind.wrap, IntKind.bits, IntKind.signed]; omega
theorem w64l {x : Int} (h0 : -18446744073709551616 ≤ x) (h1 : x < -9223372036854775808) : IntKind.i64.wrap x = x + 18446744073709551616 := by
  simp [IntKind.wrap, IntKind.bits, IntKind.signed]; omega
theorem add_ev {a b : Int} (ha : I64 a) (hb : I64 b) : D 138 [.sc (.int .i64 a), .sc (.int .i64 b)] = some (pvG (addS a b)) := by
  have hw : I64 (IntKind.i64.wrap (a + b)) := by
    unfold I64 at ha hb ⊢
    by_cases h1 : 9223372036854775807 < a + b
    · rw [w64h h1 (by omega)]; omega
    · by_cases h2 : a + b < -9223372036854775808
      · rw [w64l (by omega) h2]; omega
      · rw [w64 (by omega) (by omega)]; omega
  rw [f138_eq 0]
  simp only [may_ev ha, may_ev hb, may_ev hw, bs, shb, if_true, tb, bA, bO]
  unfold I64 at ha hb
  unfold addS
  by_cases h1 : 9223372036854775807 < a + b
  · rw [if_neg (by unfold May; omega)]
    refine ip ?_ rfl
    rw [w64h h1 (by omega)]
    simp only [Bool.or_eq_true, Bool.not_eq_true', Bool.and_eq_true, decide_eq_true_eq, decide_eq_false_iff_not]
    simp only [May]
    omega
  · by_cases h2 : a + b < -9223372036854775808
    · rw [if_neg (by unfold May; omega)]
      refine ip ?_ rfl
      rw [w64l (by omega) h2]
      simp only [Bool.or_eq_true, Bool.not_eq_true', Bool.and_eq_true, decide_eq_true_eq, decide_eq_false_iff_not]
      simp only [May]
      omega
    · simp only [w64 (x := a + b) (by omega) (by omega)]
      by_cases h3 : May a ∧ May b ∧ May (a + b)
      · rw [if_pos h3]
        refine im ?_ rfl
        simp only [Bool.or_eq_true, Bool.not_eq_true', Bool.and_eq_true, decide_eq_true_eq, decide_eq_false_iff_not] at h3 ⊢
        simp only [May] at h3 ⊢
        omega
      · rw [if_neg h3]
        refine ip ?_ rfl
        simp only [Bool.or_eq_true, Bool.not_eq_true', Bool.and_eq_true, decide_eq_true_eq, decide_eq_false_iff_not] at h3 ⊢
        simp only [May] at h3 ⊢
        omega
theorem neg_ev {a : Int} (ha : I64 a) : D 140 [.sc (.int .i64 a)] = some (pvG (negS a)) := by
  rw [f140_eq 0]
  refine cb (may_ev ha) rfl ?_
  simp only [tb]
  unfold negS
  by_cases h : May a
  · rw [if_pos h, decide_eq_true h]
    refine im (by decide) ?_
    unfold May at h
    rw [w64 (by omega) (by omega), Int.zero_sub]
    rfl
  · rw [if_neg h, decide_eq_false h]
    exact ip (by decide) rfl
theorem size_ev {x : Int} (h0 : 0 ≤ x) (h1 : x ≤ 9223372036854775807) : D 167 [.sc (.int .i64 x)] = some (.sc (.int .u64 x)) := by
  rw [f167_eq 0]
  refine im (by rw [decide_eq_true_eq]; omega) ?_
  rw [u64i h0 (by omega)]
theorem sign_ev {x : Int} (h0 : 0 ≤ x) : D 101 [.sc (.int .i64 x)] = some (.sc (.int .i64 (if x = 0 then 0 else 1))) := by
  rw [f101_eq 0]
  refine im (by rw [decide_eq_true_eq]; omega) ?_
  by_cases h : x = 0
  · rw [if_pos h]; exact im (by rw [decide_eq_true_eq]; omega) rfl
  · rw [if_neg h]; exact ip (by rw [decide_eq_true_eq]; omega) rfl
def pvU (a b : Int) : PV := .tup [.sc (.int .u64 a), .sc (.int .u64 b)]
theorem mul64_ev (a b : Int) (ha0 : 0 ≤ a) (ha : a < 18446744073709551616) (hb0 : 0 ≤ b) (hb : b < 18446744073709551616) :
    D 168 [.sc (.int .u64 a), .sc (.int .u64 b)] = some (pvU (a * b / 18446744073709551616) (a * b % 18446744073709551616)) := by
  obtain ⟨p11, p10, p01, p00, e11, e10, e01, e00, h11, h10, h01, h00, e⟩ := mul64_math ha0 ha hb0 hb
  rw [f168_eq 0]
  have ea : a.fdiv 4294967296 = a / 4294967296 := Int.fdiv_eq_ediv_of_nonneg _ (by decide)
  have eb : b.fdiv 4294967296 = b / 4294967296 := Int.fdiv_eq_ediv_of_nonneg _ (by decide)
  rw [and32 ha0 ha, and32 hb0 hb, ea, eb, ← e11, ← e10, ← e01, ← e00, u64i (x := p11) (by omega) (by omega), u64i (x := p10) (by omega) (by omega), u64i (x := p01) (by omega) (by omega), u64i (x := p00) (by omega) (by omega)]
  have e0 : p00.fdiv 4294967296 = p00 / 4294967296 := Int.fdiv_eq_ediv_of_nonneg _ (by decide)
  rw [e0, u64i (x := p10 + p00 / 4294967296) (by omega) (by omega), and32 (by omega) (by omega), u64w (a * b)]
  rw [u64i (x := (p10 + p00 / 4294967296) % 4294967296 + p01) (by omega) (by omega)]
  have e1 : (p10 + p00 / 4294967296).fdiv 4294967296 = (p10 + p00 / 4294967296) / 4294967296 := Int.fdiv_eq_ediv_of_nonneg _ (by decide)
  have e2 : ((p10 + p00 / 4294967296) % 4294967296 + p01).fdiv 4294967296 = ((p10 + p00 / 4294967296) % 4294967296 + p01) / 4294967296 := Int.fdiv_eq_ediv_of_nonneg _ (by decide)
  rw [e1, e2, u64w, u64w]
  unfold pvU
  congr 6
  omega
theorem div64_ev {lo : Int} (h0 : 0 ≤ lo) (h1 : lo < 18446744073709551616) : D 169 [.sc (.int .u64 0), .sc (.int .u64 lo), .sc (.int .u64 1)] = some (pvU lo 0) := by
  rw [f169_eq 0]
  refine im (by decide) ?_
  rw [f169.j0a_eq]
  refine im (by decide) ?_
  rw [f169.j1a_eq]
  refine ip (by decide) (ip (by decide) (ip (by decide) ?_))
  rw [Int.tdiv_one, Int.tmod_one, u64i h0 h1]
  rfl
theorem scaled_ev {a b : Int} (ha0 : 0 ≤ a) (ha : a ≤ 9223372036854775807) (hb0 : 0 < b) (hb : b ≤ 9223372036854775807) : D 137 [.sc (.int .i64 a), .sc (.int .i64 b), .sc (.int .i64 1)] = some (pvG (mulS a b)) := by
  have ma : May a := by unfold May; omega
  have mb : May b := by unfold May; omega
  have m1 : May 1 := by decide
  rw [f137_eq 0]
  simp only [may_ev (show I64 a by unfold I64; omega), may_ev (show I64 b by unfold I64; omega), may_ev (show I64 1 by unfold I64; omega), decide_eq_true ma, decide_eq_true mb, decide_eq_true m1, bs, shb, if_true, tb, bA, bO]
  refine im (by decide) (cb (size_ev (by decide) (by decide)) rfl (cb (size_ev ha0 ha) rfl (cb (size_ev (by omega) hb) rfl ?_)))
  simp only [ti]
  refine cb (mul64_ev a b ha0 (by omega) (by omega) (by omega)) rfl ?_
  show (if decide (a * b / 18446744073709551616 ≥ 1) = true then _ else _) = _
  have hp : 0 ≤ a * b := Int.mul_nonneg ha0 (by omega)
  have hq : a * b / 18446744073709551616 ≥ 0 := Int.ediv_nonneg hp (by decide)
  by_cases ho : a * b / 18446744073709551616 ≥ 1
  · refine ip (decide_eq_true ho) ?_
    rw [mulS_no (by unfold May; omega)]; rfl
  · refine im (by rw [decide_eq_true_eq]; exact ho) ?_
    have e0 : a * b / 18446744073709551616 = 0 := by omega
    have e1 : a * b % 18446744073709551616 = a * b := by omega
    rw [e0, e1]
    have hd := div64_ev (lo := a * b) hp (by omega)
    refine cb (x := pvU (a * b) 0) hd rfl ?_
    show (if decide ((0 : Int) ≥ IntKind.u64.wrap (1 - 0)) = true then _ else _) = _
    refine im (by decide) ?_
    show f137.j0a 0 a b 1 (a * b) = _
    rw [f137.j0a_eq]
    by_cases hm : a * b > 9223372036854775807
    · refine ip (decide_eq_true hm) ?_
      rw [mulS_no (by unfold May; omega)]; rfl
    · refine im (by rw [decide_eq_true_eq]; exact hm) (cb (sign_ev ha0) rfl (cb (sign_ev (by omega)) rfl (cb (sign_ev (by decide)) rfl ?_)))
      rw [mulS_yes ⟨ma, mb, by unfold May; omega⟩, w64 (x := a * b) (by omega) (by omega)]
      have hb1 : ¬ b = 0 := by omega
      by_cases hz : a = 0
      · simp only [ti, if_pos hz, if_neg hb1]
        exact im (by decide) rfl
      · simp only [ti, if_neg hz, if_neg hb1]
        exact im (by decide) rfl
theorem of_ev {x : Int} (h0 : 0 ≤ x) (h1 : x ≤ 9223372036854775807) : D 139 [.sc (.int .i64 x)] = some (pvG (mulS x 10000)) := by
  rw [f139_eq 0]
  exact cb (scaled_ev h0 h1 (by decide) (by decide)) rfl rfl
theorem number_l {w : List UInt8} (hw : w.length ≤ 1000000) (d : Nat) : ∀ (i n : Nat), i + d = w.length → (n : Int) ≤ 9223372036854775807 →
    f104.l0a 0 (B w) (n : Int) (w.length : Int) (i : Int) = some (pvG (if (w.drop i).all isD = true ∧ (valL (w.drop i) n : Int) ≤ 9223372036854775807 then ((valL (w.drop i) n : Int), w != []) else (0, false))) := by
  induction d with
  | zero =>
    intro i n h hn
    rw [f104.l0a_eq]
    refine im (by rw [decide_eq_true_eq]; omega) ?_
    rw [List.drop_eq_nil_of_le (by omega), if_pos ⟨rfl, hn⟩, B_toList, show (⟨#[]⟩ : ByteArray).toList = [] from B_toList []]
    rfl
  | succ d ih =>
    intro i n h hn
    have hi : i < w.length := by omega
    rw [f104.l0a_eq]
    have c1 : (0 : Int) ≤ (i : Int) := by omega
    have c2 : (i : Int) < ((B w).size : Int) := by rw [B_size]; omega
    refine ip (by rw [decide_eq_true_eq]; omega) (ip c1 (ip c2 ?_))
    simp only [if_pos c1, if_pos c2, bs, tb, bO]
    have eb : bt (B w) (i : Int) = (w[i].toNat : Int) := B_bt hi
    rw [List.drop_eq_getElem_cons hi, List.all_cons, valL]
    simp only [eb]
    generalize hb : w[i] = b
    by_cases hd : isD b = true
    · have hd2 : 48 ≤ b.toNat ∧ b.toNat ≤ 57 := by unfold isD at hd; simpa using hd
      refine im (by rw [Bool.or_eq_true, decide_eq_true_eq, decide_eq_true_eq]; omega) ?_
      rw [hd, Bool.true_and]
      refine cb (scaled_ev (by omega) hn (by decide) (by decide)) rfl ?_
      have e8 : IntKind.i64.wrap (IntKind.u8.wrap ((b.toNat : Int) - 48)) = ((b.toNat - 48 : Nat) : Int) := by
        have : IntKind.u8.wrap ((b.toNat : Int) - 48) = ((b.toNat - 48 : Nat) : Int) := by
          simp [IntKind.wrap, IntKind.bits, IntKind.signed]; omega
        rw [this, w64 (by omega) (by omega)]
      rw [e8]
      have hge := valL_ge (w.drop (i + 1)) (n * 10 + (b.toNat - 48))
      have hd9 : b.toNat - 48 ≤ 9 := by omega
      generalize b.toNat - 48 = c at *
      have ei : IntKind.i64.wrap ((i : Int) + 1) = ((i + 1 : Nat) : Int) := by rw [w64 (by omega) (by omega)]; rfl
      rw [ei]
      have bad : ∀ g : Int × Bool, D 138 [.sc (.int .i64 ((cel 0 (pvG (mulS (n : Int) 10)).parts).toInt)), .sc (.int .i64 (c : Int))] = some (pvG g) → ((!(mulS (n : Int) 10).2) || (!g.2)) = true → ((D 138 [.sc (.int .i64 ((cel 0 (pvG (mulS (n : Int) 10)).parts).toInt)), .sc (.int .i64 (c : Int))]).bind fun r5 => if hasSh (.tup [(.int .i64), .bool]) r5 = true then
              if ((!((cel 1 (pvG (mulS (n : Int) 10)).parts).toBool)) || (!((cel 1 r5.parts).toBool))) = true then
                some (.tup [.sc (.int .i64 0), .sc (.bool false)])
              else
                f104.l0a 0 (B w) ((cel 0 r5.parts).toInt) (w.length : Int) ((i + 1 : Nat) : Int)
              else none) = some (pvG (0, false)) := by
        intro g hg hbad
        refine cb hg rfl ?_
        simp only [pvG_0, pvG_1, tb]
        exact ip hbad rfl
      by_cases h3 : (n : Int) * 10 ≤ 9223372036854775807
      · have em : mulS (n : Int) 10 = ((n : Int) * 10, true) := mulS_yes (a := (n : Int)) (b := 10) ⟨by unfold May; omega, by decide, by unfold May; omega⟩
        by_cases h4 : (n : Int) * 10 + (c : Int) ≤ 9223372036854775807
        · rw [em]
          refine cb (add_ev (by show I64 ((n : Int) * 10); unfold I64; omega) (by unfold I64; omega)) rfl ?_
          simp only [pvG_0, pvG_1, tb]
          have ea := addS_yes (a := (n : Int) * 10) (b := (c : Int)) ⟨by unfold May; omega, by unfold May; omega, by unfold May; omega⟩
          refine im (by rw [ea]; simp) ?_
          rw [ea]
          have := ih (i + 1) (n * 10 + c) (by omega) (by omega)
          rw [show ((n * 10 + c : Nat) : Int) = (n : Int) * 10 + (c : Int) by omega] at this
          exact this
        · rw [if_neg (fun hh => by omega)]
          refine bad _ (add_ev (by rw [pvG_0, em]; show I64 ((n : Int) * 10); unfold I64; omega) (by unfold I64; omega)) ?_
          rw [pvG_0, em, addS_no (by unfold May; omega)]; rfl
      · have em : mulS (n : Int) 10 = (0, false) := mulS_no (by unfold May; omega)
        rw [if_neg (fun hh => by omega)]
        refine bad _ (add_ev (by rw [pvG_0, em]; show I64 0; unfold I64; omega) (by unfold I64; omega)) ?_
        rw [em]; rfl
    · have hd2 : ¬ (48 ≤ b.toNat ∧ b.toNat ≤ 57) := by unfold isD at hd; simpa using hd
      refine ip (by rw [Bool.or_eq_true, decide_eq_true_eq, decide_eq_true_eq]; omega) ?_
      rw [if_neg (by rw [Bool.and_eq_true]; exact fun hh => hd hh.1.1)]
      rfl
theorem number_ev {w : List UInt8} (hw : w.length ≤ 1000000) : D 104 [.sc (.string (B w))] = some (pvG (numS w)) := by
  rw [f104_eq 0]
  have := number_l hw w.length 0 0 (Nat.zero_add _) (by decide)
  rw [List.drop_zero] at this
  rw [B_size]
  have e : numS w = (if w.all isD = true ∧ (valL w 0 : Int) ≤ 9223372036854775807 then ((valL w 0 : Int), w != []) else (0, false)) := by
    unfold numS
    by_cases h0 : w = []
    · subst h0; rfl
    · by_cases h1 : w.all isD = true ∧ (valL w 0 : Int) ≤ 9223372036854775807
      · rw [if_pos ⟨h0, h1⟩, if_pos h1, show (w != []) = true by simpa using h0]
      · rw [if_neg (fun hh => h1 hh.2), if_neg h1]
  rw [e]
  exact this
def putS (x y : Nat) (m : Bool) : Int × Bool := if ((x * 10000 + y : Nat) : Int) ≤ 9223372036854775807 then (if m = true then -((x * 10000 + y : Nat) : Int) else ((x * 10000 + y : Nat) : Int), true) else (0, false)
theorem put_ev {x y : Nat} (hx : (x : Int) ≤ 9223372036854775807) (hy : (y : Int) ≤ 9223372036854775807) (m : Bool) : D 105 [.sc (.int .i64 (x : Int)), .sc (.int .i64 (y : Int)), .sc (.bool m)] = some (pvG (putS x y m)) := by
  rw [f105_eq 0]
  refine cb (of_ev (by omega) hx) rfl ?_
  unfold putS
  by_cases h1 : (x : Int) * 10000 ≤ 9223372036854775807
  · have em : mulS (x : Int) 10000 = ((x : Int) * 10000, true) := mulS_yes (a := (x : Int)) (b := 10000) ⟨by unfold May; omega, by decide, by unfold May; omega⟩
    rw [em]
    refine cb (add_ev (by show I64 ((x : Int) * 10000); unfold I64; omega) (by unfold I64; omega)) rfl ?_
    simp only [bO]
    simp only [pvG_0, pvG_1, tb]
    by_cases h2 : ((x * 10000 + y : Nat) : Int) ≤ 9223372036854775807
    · have ea := addS_yes (a := (x : Int) * 10000) (b := (y : Int)) ⟨by unfold May; omega, by unfold May; omega, by unfold May; omega⟩
      rw [if_pos h2]
      refine im (by rw [ea]; simp) ?_
      rw [ea]
      rw [show (x : Int) * 10000 + (y : Int) = ((x * 10000 + y : Nat) : Int) by omega]
      cases m
      · exact im (by decide) rfl
      · refine ip rfl (cb (neg_ev (by unfold I64; omega)) rfl ?_)
        rw [show negS ((x * 10000 + y : Nat) : Int) = (-((x * 10000 + y : Nat) : Int), true) from if_pos (by unfold May; omega)]
        rfl
    · rw [if_neg h2]
      exact ip (by rw [addS_no (by unfold May; omega)]; decide) rfl
  · have em : mulS (x : Int) 10000 = (0, false) := mulS_no (by unfold May; omega)
    rw [em, if_neg (by omega)]
    refine cb (add_ev (by show I64 0; unfold I64; omega) (by unfold I64; omega)) rfl ?_
    simp only [bO]
    simp only [pvG_0, pvG_1, tb]
    exact ip (by simp) rfl
theorem read_l {x y : Nat} {m : Bool} (hx : (x : Int) ≤ 9223372036854775807) {e : Nat} (he : e ≤ 4) (hy : y * 10 ^ e ≤ 1000000) (d : Nat) : ∀ i : Nat, i + d = e →
    f62.l0a 0 m (x : Int) ((y * 10 ^ i : Nat) : Int) (e : Int) (i : Int) = some (pvG (putS x (y * 10 ^ e) m)) := by
  induction d with
  | zero =>
    intro i h
    obtain rfl : i = e := by omega
    rw [f62.l0a_eq]
    refine im (by rw [decide_eq_true_eq]; omega) ?_
    exact cb (put_ev hx (by omega) m) rfl rfl
  | succ d ih =>
    intro i h
    have hle : y * 10 ^ (i + 1) ≤ y * 10 ^ e := Nat.mul_le_mul_left _ (Nat.pow_le_pow_right (by decide) (by omega))
    have e1 : IntKind.i64.wrap (((y * 10 ^ i : Nat) : Int) * 10) = ((y * 10 ^ (i + 1) : Nat) : Int) := by
      have h2 : y * 10 ^ (i + 1) = y * 10 ^ i * 10 := by rw [pow_next, Nat.mul_assoc]
      generalize y * 10 ^ (i + 1) = q at *
      generalize y * 10 ^ i = p at *
      generalize y * 10 ^ e = z at *
      subst h2
      rw [w64 (by omega) (by omega)]
      omega
    rw [f62.l0a_eq]
    refine ip (by rw [decide_eq_true_eq]; omega) ?_
    rw [e1, w64 (x := (i : Int) + 1) (by omega) (by omega)]
    exact ih (i + 1) (by omega)
theorem cutp_ev (l : List UInt8) : D 84 [.sc (.string (B l)), .sc (.string (⟨#[45]⟩ : ByteArray))] = some (.tup [.sc (.string (B (bodyL l))), .sc (.bool (minusL l))]) := by
  have e : D 84 [.sc (.string (B l)), .sc (.string (⟨#[45]⟩ : ByteArray))] = xCutPrefix [.sc (.string (B l)), .sc (.string (⟨#[45]⟩ : ByteArray))] := (denI_eq 0 _ _).trans (by kernel_rfl)
  rw [e]; rfl
theorem cut_ev {l : List UInt8} (h : l.length ≤ 1000000) : D 103 [.sc (.string (B l)), .sc (.string (⟨#[46]⟩ : ByteArray))] = some (.tup [.sc (.string (B (cutL l).1)), .sc (.string (B (cutL l).2.1)), .sc (.bool (cutL l).2.2)]) := by
  have e : D 103 [.sc (.string (B l)), .sc (.string (⟨#[46]⟩ : ByteArray))] = xCut [.sc (.string (B l)), .sc (.string (⟨#[46]⟩ : ByteArray))] := (denI_eq 0 _ _).trans (by kernel_rfl)
  rw [e]
  unfold xCut
  have ec : (Lib.cut (B l).data.toList (⟨#[46]⟩ : ByteArray).data.toList) = cutL l := cut_eq l
  dsimp only
  rw [ec]
  exact if_pos (by rw [B_size]; omega)
theorem read_ev {l : List UInt8} (hl : l.length ≤ 1000000) : D 62 [.sc (.string (B l))] = some (pvG (readL l)) := by
  rw [f62_eq 0]
  refine cb (cutp_ev l) rfl ?_
  rw [B_size]
  by_cases h40 : (l.length : Int) > 40
  · rw [show readL l = (0, false) from if_neg (fun hh => by omega)]
    exact ip (decide_eq_true h40) rfl
  · refine im (by rw [decide_eq_true_eq]; exact h40) ?_
    have hb := body_len l
    refine cb (cut_ev (l := bodyL l) (by omega)) rfl ?_
    have hc := cut_len (bodyL l)
    generalize hC : cutL (bodyL l) = c at *
    refine cb (number_ev (w := c.1) (by omega)) rfl (cb (number_ev (w := c.2.1) (by omega)) rfl ?_)
    have bad : ¬ rightL c → readL l = (0, false) := fun hh => if_neg (fun h2 => hh (by rw [hC] at h2; exact h2.2))
    have hle : valL c.1 0 ≤ totL c := by unfold totL; omega
    have es : ∀ (a b c : PV), (cel 1 (PV.tup [a, b, c]).parts) = b ∧ (cel 2 (PV.tup [a, b, c]).parts) = c := fun _ _ _ => ⟨rfl, rfl⟩
    have es2 : ∀ (a b : PV), (cel 1 (PV.tup [a, b]).parts) = b := fun _ _ => rfl
    simp only [bO, bA, bs]
    simp only [pvG_0, pvG_1, tb, (es _ _ _).1, (es _ _ _).2, ts, es2, B_size]
    have go : (numS c.1) = ((valL c.1 0 : Int), true) → (c.1 ≠ [] ∧ c.1.all isD = true ∧ (valL c.1 0 : Int) ≤ 9223372036854775807) → c.2.1.length ≤ 4 → valL c.2.1 0 * 10 ^ (4 - c.2.1.length) ≤ 1000000 → (c.2.2 = true → c.2.1 ≠ [] ∧ c.2.1.all isD = true ∧ c.2.1.length ≤ 4) → (numS c.2.1).1 = (valL c.2.1 0 : Int) → f62.l0a 0 (minusL l) (numS c.1).1 (numS c.2.1).1 (IntKind.i64.wrap ((4 : Int) - (c.2.1.length : Int))) 0 = some (pvG (readL l)) := by
      intro hn h1 h4 hy hr ey
      rw [hn, ey, w64 (x := 4 - (c.2.1.length : Int)) (by omega) (by omega), show (4 : Int) - (c.2.1.length : Int) = ((4 - c.2.1.length : Nat) : Int) by omega]
      have := read_l (x := valL c.1 0) (y := valL c.2.1 0) (m := minusL l) h1.2.2 (e := 4 - c.2.1.length) (by omega) hy (4 - c.2.1.length) 0 (Nat.zero_add _)
      rw [Nat.pow_zero, Nat.mul_one] at this
      have e : readL l = putS (valL c.1 0) (valL c.2.1 0 * 10 ^ (4 - c.2.1.length)) (minusL l) := by
        unfold readL putS
        rw [hC]
        show _ = if ((totL c : Nat) : Int) ≤ _ then (if minusL l = true then -((totL c : Nat) : Int) else ((totL c : Nat) : Int), true) else (0, false)
        by_cases ht : ((totL c : Nat) : Int) ≤ 9223372036854775807
        · rw [if_pos ⟨by omega, h1.1, h1.2.1, hr, ht⟩, if_pos ht]
        · rw [if_neg (fun hh => ht hh.2.2.2.2), if_neg ht]
      rw [e]
      exact this
    by_cases h1 : c.1 ≠ [] ∧ c.1.all isD = true ∧ (valL c.1 0 : Int) ≤ 9223372036854775807
    · have hn := numS_yes h1
      have hn2 : (numS c.1).2 = true := by rw [hn]
      by_cases hp : c.2.2 = true
      · by_cases h2 : c.2.1 ≠ [] ∧ c.2.1.all isD = true ∧ (valL c.2.1 0 : Int) ≤ 9223372036854775807
        · have hm := numS_yes h2
          have hm2 : (numS c.2.1).2 = true := by rw [hm]
          by_cases h4 : c.2.1.length ≤ 4
          · refine im (by rw [hn2, hm2, hp, decide_eq_false (by omega)]; decide) ?_
            have hv := val_lt c.2.1 0 h2.2.1
            refine go hn h1 h4 ?_ (fun _ => ⟨h2.1, h2.2.1, h4⟩) (by rw [hm])
            have h5 : c.2.1.length = 0 ∨ c.2.1.length = 1 ∨ c.2.1.length = 2 ∨ c.2.1.length = 3 ∨ c.2.1.length = 4 := by omega
            rcases h5 with h5 | h5 | h5 | h5 | h5 <;> rw [h5] at hv ⊢ <;> simp at hv ⊢ <;> omega
          · refine ip (by rw [hn2, hm2, hp, decide_eq_true (by omega)]; decide) ?_
            rw [bad (fun hh => h4 (hh.2.2.1 hp).2.2)]; rfl
        · have hm2 : (numS c.2.1).2 = false := by rw [numS_no h2]
          refine ip (by rw [hn2, hm2, hp]; simp) ?_
          rw [bad (fun hh => by
            have h6 := hh.2.2.1 hp
            have h7 := hh.2.2.2
            have h8 : valL c.2.1 0 ≤ totL c := by
              unfold totL
              exact Nat.le_trans (Nat.le_mul_of_pos_right _ (Nat.pow_pos (by decide))) (Nat.le_add_left _ _)
            exact h2 ⟨h6.1, h6.2.1, by omega⟩)]
          rfl
      · have hp2 : c.2.2 = false := by simpa using hp
        refine im (by rw [hn2, hp2]; simp) ?_
        have he := hc.2.2 hp2
        refine go hn h1 (by rw [he]; decide) (by rw [he]; decide) (fun h => absurd h hp) ?_
        rw [he]
        rfl
    · have hn2 : (numS c.1).2 = false := by rw [numS_no h1]
      refine ip (by rw [hn2]; simp) ?_
      rw [bad (fun hh => h1 ⟨hh.1, hh.2.1, by have := hh.2.2.2; omega⟩)]
      rfl
end Go.Den.EX
/- What decimal a text means, and with which one it begins: the plain part. -/
set_option linter.unusedVariables false
set_option linter.unusedSimpArgs false
namespace Go.Den
open Go Go.Proofs
/-- How many digits come, at the most m. -/
def runD : Nat → List UInt8 → Nat
  | 0, _ => 0
  | _ + 1, [] => 0
  | m + 1, c :: t => if isD c = true then 1 + runD m t else 0
def isDp (l : List UInt8) (i : Nat) : Bool := match l.drop i with | [] => false | c :: _ => isD c
def leadn (l : List UInt8) : Nat := let n := runD 30 l; if 0 < n ∧ (l.drop n).head? = some 46 ∧ isDp l (n + 1) = true then n + 1 + runD 4 (l.drop (n + 1)) else n
def leadL (l : List UInt8) : Int × Int × Bool := if (readL (l.take (leadn l))).2 = true then ((readL (l.take (leadn l))).1, (leadn l : Int), true) else (0, 0, false)
theorem runD_le : ∀ (m : Nat) (l : List UInt8), runD m l ≤ m ∧ runD m l ≤ l.length
  | 0, l => by simp [runD]
  | m + 1, [] => by simp [runD]
  | m + 1, c :: t => by
    have := runD_le m t
    rw [runD]
    split <;> simp <;> omega
theorem isDp_eq (l : List UInt8) (i : Nat) : isDp l i = if h : i < l.length then isD l[i] else false := by
  unfold isDp
  by_cases h : i < l.length
  · rw [dif_pos h, List.drop_eq_getElem_cons h]
  · rw [dif_neg h, List.drop_eq_nil_of_le (by omega)]
theorem runD_step (m : Nat) (l : List UInt8) (i : Nat) : runD (m + 1) (l.drop i) = if isDp l i = true then 1 + runD m (l.drop (i + 1)) else 0 := by
  rw [isDp_eq]
  by_cases h : i < l.length
  · rw [dif_pos h, List.drop_eq_getElem_cons h, runD]
  · rw [dif_neg h, List.drop_eq_nil_of_le (by omega), runD]; rfl
theorem leadn_le (l : List UInt8) : leadn l ≤ l.length := by
  unfold leadn
  have h := runD_le 30 l
  have h2 := runD_le 4 (l.drop (runD 30 l + 1))
  rw [List.length_drop] at h2
  dsimp only
  split
  · rename_i hh
    have hd : isDp l (runD 30 l + 1) = true := hh.2.2
    rw [isDp_eq] at hd
    by_cases h3 : runD 30 l + 1 < l.length
    · omega
    · rw [dif_neg h3] at hd; cases hd
  · exact h.2
def gotN (v : Nat) : Int × Bool := if (v : Int) ≤ 9223372036854775807 then ((v : Int), true) else (0, false)
theorem gotN_yes {v : Nat} (h : (v : Int) ≤ 9223372036854775807) : gotN v = ((v : Int), true) := if_pos h
theorem gotN_no {v : Nat} (h : ¬ (v : Int) ≤ 9223372036854775807) : gotN v = (0, false) := if_neg h
def finN (m : Bool) (v : Nat) : Int × Bool := if (v : Int) ≤ 9223372036854775807 then (if m = true then -(v : Int) else (v : Int), true) else (0, false)
/-- The digits, and how many stand behind the point; none: a byte is wrong. -/
def scanL : List UInt8 → Bool → Option Nat → Nat → Option (Option Nat × Nat)
  | [], _, b, v => some (b, v)
  | c :: t, st, b, v => if c = 46 ∧ b = none ∧ st = true then scanL t true (some 0) v else if isD c = true then scanL t true (b.map (· + 1)) (v * 10 + (c.toNat - 48)) else none
def bI : Option Nat → Int
  | none => -1
  | some b => b
def finL (e m : Bool) : Option (Option Nat × Nat) → Int × Bool
  | none => (0, false)
  | some (b, v) => if e = true ∨ b = some 0 ∨ 4 < b.getD 0 then (0, false) else finN m (v * 10 ^ (4 - b.getD 0))
theorem finL_some (e m : Bool) (b : Option Nat) (v : Nat) : finL e m (some (b, v)) = if e = true ∨ b = some 0 ∨ 4 < b.getD 0 then (0, false) else finN m (v * 10 ^ (4 - b.getD 0)) := rfl
theorem scan_two : ∀ (t : List UInt8) (st : Bool) (b v : Nat), scanL t st (some b) v = if t.all isD = true then some (some (b + t.length), valL t v) else none
  | [], st, b, v => rfl
  | c :: t, st, b, v => by
    rw [scanL, if_neg (fun hh => by cases hh.2.1)]
    by_cases h : isD c = true
    · rw [if_pos h]
      show scanL t true (some (b + 1)) _ = _
      rw [scan_two t true (b + 1), List.all_cons, h, Bool.true_and, valL, List.length_cons, show b + 1 + t.length = b + (t.length + 1) by omega]
    · rw [if_neg h, List.all_cons, if_neg (by rw [Bool.and_eq_true]; exact fun hh => h hh.1)]
theorem isD46 : isD 46 = false := by decide
theorem scan_one : ∀ (t : List UInt8) (st : Bool) (v : Nat), scanL t st none v =
    if (cutL t).1.all isD = true then (if (cutL t).2.2 = true then (if st = true ∨ (cutL t).1 ≠ [] then (if (cutL t).2.1.all isD = true then some (some (cutL t).2.1.length, valL (cutL t).2.1 (valL (cutL t).1 v)) else none) else none) else some (none, valL (cutL t).1 v)) else none
  | [], st, v => rfl
  | c :: t, st, v => by
    rw [scanL]
    by_cases hc : c = 46
    · subst hc
      have e : cutL (46 :: t) = ([], t, true) := by rw [cutL, if_pos rfl]
      rw [e]
      by_cases hs : st = true
      · rw [if_pos ⟨rfl, rfl, hs⟩, scan_two, Nat.zero_add]
        simp only [List.all_nil, if_true, hs, true_or]
        rfl
      · rw [if_neg (fun hh => hs hh.2.2), isD46]
        simp [hs]
    · have e : cutL (c :: t) = (c :: (cutL t).1, (cutL t).2.1, (cutL t).2.2) := by rw [cutL, if_neg hc]
      rw [if_neg (fun hh => hc hh.1), e]
      dsimp only
      rw [List.all_cons]
      by_cases h : isD c = true
      · rw [if_pos h, h, Bool.true_and]
        show scanL t true none _ = _
        rw [scan_one t true]
        simp only [valL, true_or, if_true, ne_eq, reduceCtorEq, not_false_eq_true, or_true]
      · rw [if_neg h, show isD c = false by simpa using h]
        rfl
theorem tot_eq (a z : List UInt8) (h : z.length ≤ 4) : valL z (valL a 0) * 10 ^ (4 - z.length) = valL a 0 * 10000 + valL z 0 * 10 ^ (4 - z.length) := by
  have key : ∀ (z : List UInt8) (n : Nat), valL z n = n * 10 ^ z.length + valL z 0 := by
    intro z
    induction z with
    | nil => intro n; simp [valL]
    | cons b z ih =>
      intro n
      rw [valL, valL, ih (n * 10 + (b.toNat - 48)), ih (0 * 10 + (b.toNat - 48)), List.length_cons, Nat.pow_succ]
      generalize b.toNat - 48 = c
      generalize 10 ^ z.length = p
      rw [Nat.zero_mul, Nat.zero_add, Nat.add_mul, Nat.add_assoc, Nat.mul_assoc, Nat.mul_comm 10 p]
  rw [key z (valL a 0), Nat.add_mul, Nat.mul_assoc, ← Nat.pow_add, show z.length + (4 - z.length) = 4 by omega]
/-- The reference's answer is the program's. -/
theorem fin_read {l : List UInt8} (hl : l.length ≤ 40) : finL (bodyL l == []) (minusL l) (scanL (bodyL l) false none 0) = readL l := by
  rw [scan_one]
  have hcl := cut_len (bodyL l)
  have hce : bodyL l = [] → (cutL (bodyL l)).1 = [] := by intro h; rw [h]; rfl
  have hne : (cutL (bodyL l)).1 = [] → (cutL (bodyL l)).2.2 = false → bodyL l = [] := by
    intro h1 h2
    rcases hb : bodyL l with _ | ⟨c, t⟩
    · rfl
    · rw [hb, cutL] at h1 h2
      by_cases hc : c = 46
      · rw [if_pos hc] at h2; cases h2
      · rw [if_neg hc] at h1; cases h1
  unfold readL rightL
  generalize hC : cutL (bodyL l) = C at *
  obtain ⟨a, z, p⟩ := C
  dsimp only at *
  by_cases ha : a.all isD = true
  · rw [if_pos ha]
    cases p with
    | true =>
      rw [if_pos rfl]
      by_cases h0 : a = []
      · rw [if_neg (by simp [h0]), if_neg (fun hh => hh.2.1 h0)]; rfl
      · rw [if_pos (Or.inr h0)]
        have hb0 : (bodyL l == []) = false := by
          have : bodyL l ≠ [] := fun h => h0 (hce h)
          simpa using this
        by_cases hz : z.all isD = true
        · rw [if_pos hz]
          rw [finL_some]
          by_cases hz0 : z = []
          · rw [if_pos (Or.inr (Or.inl (by rw [hz0]; rfl))), if_neg (fun hh => (hh.2.2.2.1 rfl).1 hz0)]
          · by_cases h4 : z.length ≤ 4
            · rw [if_neg (by
                rw [hb0]
                rintro (h | h | h)
                · cases h
                · exact hz0 (List.length_eq_zero_iff.1 (Option.some.inj h))
                · have : 4 < z.length := h
                  omega)]
              show finN (minusL l) (valL z (valL a 0) * 10 ^ (4 - z.length)) = _
              rw [tot_eq a z h4]
              unfold finN totL
              dsimp only
              by_cases hm : ((valL a 0 * 10000 + valL z 0 * 10 ^ (4 - z.length) : Nat) : Int) ≤ 9223372036854775807
              · exact (if_pos hm).trans (if_pos ⟨hl, h0, ha, fun _ => ⟨hz0, hz, h4⟩, hm⟩).symm
              · rw [if_neg hm, if_neg (fun hh => hm hh.2.2.2.2)]
            · rw [if_pos (Or.inr (Or.inr (by show 4 < z.length; omega))), if_neg (fun hh => h4 (hh.2.2.2.1 rfl).2.2)]
        · rw [if_neg hz, if_neg (fun hh => hz (hh.2.2.2.1 rfl).2.1)]; rfl
    | false =>
      rw [if_neg (by decide)]
      obtain rfl := hcl.2.2 rfl
      rw [finL_some]
      by_cases h0 : a = []
      · rw [if_pos (Or.inl (by rw [hne h0 rfl]; rfl)), if_neg (fun hh => hh.2.1 h0)]
      · have hb0 : (bodyL l == []) = false := by
          have : bodyL l ≠ [] := fun h => h0 (hce h)
          simpa using this
        rw [if_neg (by rw [hb0]; rintro (h | h | h) <;> first | cases h | exact absurd h (by decide))]
        show finN (minusL l) (valL a 0 * 10 ^ 4) = _
        have e : totL (a, ([] : List UInt8), false) = valL a 0 * 10 ^ 4 := by unfold totL; simp [valL]
        unfold finN
        rw [← e]
        by_cases hm : ((totL (a, ([] : List UInt8), false) : Nat) : Int) ≤ 9223372036854775807
        · exact (if_pos hm).trans (if_pos ⟨hl, h0, ha, (fun h => absurd h (by decide)), hm⟩).symm
        · rw [if_neg hm, if_neg (fun hh => hm hh.2.2.2.2)]
  · rw [if_neg ha, if_neg (fun hh => ha hh.2.2.1)]; rfl
theorem minus_eq (b : UInt8) (l : List UInt8) : minusL (b :: l) = ((b.toNat : Int) == 45) ∧ bodyL (b :: l) = if ((b.toNat : Int) == 45) = true then l else b :: l := by
  by_cases h : b = 45
  · subst h
    exact body_minus l
  · have hm : minusL (b :: l) = false := by
      unfold minusL
      simp [Lib.hasPrefix, List.isPrefixOf, Ne.symm h]
    have he : ((b.toNat : Int) == 45) = false := beq_eq_false_iff_ne.mpr (fun e => h (UInt8.toNat_inj.1 (by show b.toNat = 45; omega)))
    rw [hm, he]
    refine ⟨rfl, ?_⟩
    unfold bodyL Lib.trimPrefix
    rw [show Lib.hasPrefix (b :: l) [45] = false from hm]; rfl
theorem take_ext (l : List UInt8) (n : Nat) : (B l).extract 0 ((n : Int)).toNat = B (l.take n) := by
  rw [B_extract, Int.toNat_natCast, List.drop_zero, Nat.sub_zero]
def leadR (l : List UInt8) (n : Nat) : Int × Int × Bool := if (readL (l.take n)).2 = true then ((readL (l.take n)).1, (n : Int), true) else (0, 0, false)
theorem take_len (l : List UInt8) (n : Nat) : (l.take n).length ≤ l.length := by rw [List.length_take]; omega
theorem head_46 (l : List UInt8) (n : Nat) : ((l.drop n).head? = some 46) ↔ ∃ h : n < l.length, (l[n].toNat : Int) = 46 := by
  by_cases h : n < l.length
  · rw [List.drop_eq_getElem_cons h]
    constructor
    · intro e
      have e2 : l[n] = 46 := Option.some.inj e
      exact ⟨h, by rw [e2]; rfl⟩
    · rintro ⟨_, e⟩
      have : l[n] = 46 := UInt8.toNat_inj.1 (by show l[n].toNat = 46; omega)
      rw [this]; rfl
  · rw [List.drop_eq_nil_of_le (by omega)]
    constructor
    · intro e; cases e
    · rintro ⟨h2, _⟩; exact absurd h2 h
def leadN (l : List UInt8) (n : Nat) : Nat := if 0 < n ∧ (l.drop n).head? = some 46 ∧ isDp l (n + 1) = true then n + 1 + runD 4 (l.drop (n + 1)) else n
theorem dp_lt {l : List UInt8} {i : Nat} (h : isDp l i = true) : i < l.length := by
  rw [isDp_eq] at h
  by_cases h3 : i < l.length
  · exact h3
  · rw [dif_neg h3] at h; cases h
end Go.Den
/- Decimals, as the reference reads, adds, multiplies and tells them. -/
set_option linter.unusedVariables false
set_option linter.unusedSimpArgs false
set_option maxRecDepth 100000
namespace Go.Den.EX
open Go Go.Proofs
/-- A count, as the reference tells it. -/
theorem u8dig (n : Nat) : bytesOf [PV.sc (.int .u8 (IntKind.u8.wrap (IntKind.u64.wrap ((48 : Int) + ((n : Int).tmod 10)))))] = B [dc (n % 10)] := by
  have e : Int.tmod (n : Int) 10 = ((n % 10 : Nat) : Int) := by rw [Int.tmod_eq_emod_of_nonneg (by omega)]; omega
  have h : n % 10 < 10 := Nat.mod_lt _ (by decide)
  have e8 : IntKind.u8.wrap ((48 + n % 10 : Nat) : Int) = ((48 + n % 10 : Nat) : Int) := by
    simp [IntKind.wrap, IntKind.bits, IntKind.signed]; omega
  rw [e, u64i (by omega) (by omega), show ((48 : Int) + ((n % 10 : Nat) : Int)) = ((48 + n % 10 : Nat) : Int) by omega, e8]
  rfl
theorem utens (n : Nat) (h : (n : Int) ≤ 18446744073709551615) : IntKind.u64.wrap (Int.tdiv (n : Int) 10) = ((n / 10 : Nat) : Int) := by
  rw [Int.tdiv_eq_ediv_of_nonneg (by omega), u64i (by omega) (by omega)]
  omega
theorem whole_l (d : Nat) : ∀ (n : Nat) (l : List UInt8), n < 10 ^ d → (n : Int) ≤ 18446744073709551615 → l.length + d ≤ 100 → f133.l0a 0 (n : Int) (B l) = some (.sc (.string (B (dg n ++ l)))) := by
  induction d with
  | zero =>
    intro n l h _ hl
    obtain rfl : n = 0 := by simpa using h
    rw [f133.l0a_eq]
    exact im (by decide) rfl
  | succ d ih =>
    intro n l h hu hl
    rw [f133.l0a_eq]
    by_cases h0 : n = 0
    · subst h0
      exact im (by decide) rfl
    · refine ip (by rw [decide_eq_true_eq]; omega) (ip rfl ?_)
      rw [u8dig, B_append, B_size, B_size, utens n hu]
      refine ip (by simp; omega) ?_
      have := ih (n / 10) ([dc (n % 10)] ++ l) (by rw [Nat.pow_succ] at h; omega) (by omega) (by simp; omega)
      rw [← List.append_assoc, dg_step] at this
      rw [show dg n = Lib.decDigits n from if_neg h0]
      exact this
theorem whole_ev (n : Nat) (h : n ≤ 18446744073709551615) : D 133 [.sc (.int .u64 (n : Int))] = some (.sc (.string (B (Lib.decDigits n)))) := by
  rw [f133_eq 0]
  refine ip rfl ?_
  rw [u8dig, utens n (by omega)]
  have := whole_l 25 (n / 10) [dc (n % 10)] (by omega) (by omega) (by simp)
  rw [dg_step] at this
  exact this
theorem rmay8_ev {x : Int} (h : I64 x) : D 56 [.sc (.int .i64 x)] = some (.sc (.bool (decide (May x)))) := by
  rw [f56_eq 0]
  congr 3
  rw [Bool.eq_iff_iff, decide_eq_true_iff, decide_eq_true_iff]
  unfold I64 at h
  unfold May; omega
theorem abs_ev {x : Int} (h : May x) : D 132 [.sc (.int .i64 x)] = some (.sc (.int .u64 (x.natAbs : Int))) := by
  unfold May at h
  rw [f132_eq 0]
  by_cases h0 : x < 0
  · refine ip (by simpa using h0) ?_
    rw [w64 (by omega) (by omega), u64i (by omega) (by omega)]
    exact congrArg (fun z => some (PV.sc (.int .u64 z))) (by omega)
  · refine im (by simpa using h0) ?_
    rw [u64i (by omega) (by omega)]
    exact congrArg (fun z => some (PV.sc (.int .u64 z))) (by omega)
theorem rtext_l (d : Nat) : ∀ (r : Nat) (l : List UInt8), r < 10000 → d ≤ 4 → r % 10 ^ (4 - d) = 0 → l.length ≤ 40 - d → f92.l2a 0 (B l) (r : Int) = some (.sc (.string (B (l ++ fracL d r)))) := by
  induction d with
  | zero =>
    intro r l hr hd hm hl
    have h0 : r = 0 := by
      have : (10 : Nat) ^ (4 - 0) = 10000 := by decide
      rw [this] at hm
      omega
    subst h0
    rw [f92.l2a_eq]
    refine im (by decide) ?_
    rw [show fracL 0 0 = [] from rfl, List.append_nil]
  | succ d ih =>
    intro r l hr hd hm hl
    rw [f92.l2a_eq]
    by_cases h0 : r = 0
    · subst h0
      refine im (by decide) ?_
      rw [show fracL (d + 1) 0 = [] from by simp [fracL], List.append_nil]
    · refine ip (by rw [decide_eq_true_eq]; omega) ?_
      have e1 : IntKind.u64.wrap (Int.tdiv (r : Int) 1000) = ((r / 1000 : Nat) : Int) := by
        rw [Int.tdiv_eq_ediv_of_nonneg (by omega), u64i (by omega) (by omega)]; omega
      have e2 : IntKind.u64.wrap ((Int.tmod (r : Int) 1000) * 10) = ((r % 1000 * 10 : Nat) : Int) := by
        rw [Int.tmod_eq_emod_of_nonneg (by omega), u64i (by omega) (by omega)]; omega
      rw [e1, e2]
      refine cb (whole_ev _ (by omega)) rfl ?_
      rw [dd_small (by omega)]
      simp only [ts]
      refine ip (by simp [B_size]; omega) ?_
      rw [B_append]
      have hm2 : (r % 1000 * 10) % 10 ^ (4 - d) = 0 := by
        have : d = 0 ∨ d = 1 ∨ d = 2 ∨ d = 3 := by omega
        rcases this with rfl | rfl | rfl | rfl
        · have e : (10 : Nat) ^ (4 - (0 + 1)) = 1000 := by decide
          rw [e] at hm
          show _ % 10000 = 0
          omega
        · have e : (10 : Nat) ^ (4 - (1 + 1)) = 100 := by decide
          rw [e] at hm
          show _ % 1000 = 0
          omega
        · have e : (10 : Nat) ^ (4 - (2 + 1)) = 10 := by decide
          rw [e] at hm
          show _ % 100 = 0
          omega
        · show _ % 10 = 0
          omega
      rw [ih (r % 1000 * 10) (l ++ [dc (r / 1000)]) (by omega) (by omega) hm2 (by simp; omega)]
      rw [show fracL (d + 1) r = dc (r / 1000) :: fracL d (r % 1000 * 10) from by simp [fracL, h0], List.append_assoc]
      rfl
theorem rtext_ev {x : Int} (hx : I64 x) : D 92 [.sc (.int .i64 x)] = some (.sc (.string (B (texS x)))) := by
  rw [f92_eq 0]
  refine cb (rmay8_ev hx) rfl ?_
  simp only [tb]
  unfold texS
  by_cases h : May x
  · rw [if_pos h, decide_eq_true h]
    refine im (by decide) (cb (abs_ev h) rfl ?_)
    have hh := h
    unfold May at hh
    have e1 : IntKind.u64.wrap (Int.tdiv (x.natAbs : Int) 10000) = ((x.natAbs / 10000 : Nat) : Int) := by
      rw [Int.tdiv_eq_ediv_of_nonneg (by omega), u64i (by omega) (by omega)]; omega
    have e2 : Int.tmod (x.natAbs : Int) 10000 = ((x.natAbs % 10000 : Nat) : Int) := by
      rw [Int.tmod_eq_emod_of_nonneg (by omega)]; omega
    simp only [ti]
    rw [e1]
    refine cb (whole_ev _ (by omega)) rfl ?_
    have hl := head_len h
    have hr : x.natAbs % 10000 < 10000 := Nat.mod_lt _ (by decide)
    have fin : ∀ l : List UInt8, l.length ≤ 17 → f92.j0a 0 (x.natAbs : Int) (B l) = some (.sc (.string (B (l ++ fracS (x.natAbs % 10000))))) := by
      intro l hl
      rw [f92.j0a_eq, e2]
      unfold fracS
      generalize x.natAbs % 10000 = r at hr
      by_cases h0 : r = 0
      · subst h0
        refine im (by decide) ?_
        rw [f92.j1a_eq, if_pos rfl, List.append_nil, f92.l2a_eq]
        exact im (by decide) rfl
      · refine ip (by rw [decide_eq_true_eq]; omega) ?_
        rw [if_neg h0]
        refine ip (by rw [B_size]; omega) ?_
        rw [show (⟨#[46]⟩ : ByteArray) = B [46] from rfl, B_append, f92.j1a_eq]
        rw [rtext_l 4 r (l ++ [46]) hr (by decide) (by omega) (by simp; omega), List.append_assoc]
        rfl
    unfold texL
    by_cases h0 : x < 0
    · rw [if_pos h0] at hl ⊢
      refine ip (by simpa using h0) ?_
      simp only [ts]
      refine ip (by rw [B_size]; simp at hl ⊢; omega) ?_
      rw [show (⟨#[45]⟩ : ByteArray) = B [45] from rfl, B_append]
      exact fin _ hl
    · rw [if_neg h0] at hl ⊢
      refine im (by simpa using h0) ?_
      exact fin _ hl
  · rw [if_neg h, decide_eq_false h]
    exact ip (by decide) rfl
def pvO (q r : Int) (ok : Bool) : PV := .agg [.sc (.int .u64 q), .sc (.int .u64 r), .sc (.bool ok)]
def pvGa (g : Int × Bool) : PV := .agg [.sc (.int .i64 g.1), .sc (.bool g.2)]
theorem radd_ev {a b : Int} (ha : I64 a) (hb : I64 b) : D 147 [.sc (.int .i64 a), .sc (.int .i64 b)] = some (pvGa (addS a b)) := by
  have ma : decide (a ≥ -9223372036854775807) = decide (May a) := by congr 1; apply propext; unfold I64 at ha; unfold May; omega
  have mb : decide (b ≥ -9223372036854775807) = decide (May b) := by congr 1; apply propext; unfold I64 at hb; unfold May; omega
  rw [f147_eq 0]
  simp only [rmay8_ev ha, rmay8_ev hb, bs, shb, if_true, tb, bA, bO]
  unfold I64 at ha hb
  have d1 : (decide (b > 0) && decide (a > IntKind.i64.wrap ((9223372036854775807 : Int) - b))) = decide (b > 0 ∧ a + b > 9223372036854775807) := by
    by_cases h : b > 0
    · rw [w64 (by omega) (by omega), decide_eq_true h, Bool.true_and]; congr 1; apply propext; omega
    · rw [decide_eq_false h, Bool.false_and, decide_eq_false (by omega)]
  have d2 : (decide (b < 0) && decide (a < IntKind.i64.wrap ((-9223372036854775807 : Int) - b))) = decide (b < 0 ∧ a + b < -9223372036854775807) := by
    by_cases h : b < 0
    · rw [w64 (by omega) (by omega), decide_eq_true h, Bool.true_and]; congr 1; apply propext; omega
    · rw [decide_eq_false h, Bool.false_and, decide_eq_false (by omega)]
  simp only [d1, d2]
  unfold addS
  by_cases h : May a ∧ May b ∧ May (a + b)
  · rw [if_pos h]
    refine im ?_ ?_
    · simp only [Bool.or_eq_true, Bool.not_eq_true', decide_eq_true_eq, decide_eq_false_iff_not]
      unfold May at h ⊢; omega
    · unfold May at h
      rw [w64 (by omega) (by omega)]; rfl
  · rw [if_neg h]
    refine ip ?_ rfl
    simp only [Bool.or_eq_true, Bool.not_eq_true', decide_eq_true_eq, decide_eq_false_iff_not]
    unfold May at h ⊢; omega
theorem divide_l0 {b : Int} (hb : 0 < b) (hb' : b ≤ 9223372036854775808) (d : Nat) : ∀ (i H L Q R q0 X S : Int), i = 128 - (d : Int) → d ≤ 128 →
    0 ≤ H → H < 18446744073709551616 → 0 ≤ L → L < 18446744073709551616 → H * 18446744073709551616 + L = X * S → 0 ≤ X → X < 2 ^ d → 0 < S → 2 ^ d * S = 340282366920938463463374607431768211456 →
    0 ≤ q0 → 0 ≤ R → R < b → (q0 < 18446744073709551616 → Q = q0) → 0 ≤ Q → Q < 18446744073709551616 →
    ∃ Q', f177.l0a 0 b i H L 0 0 false Q R (decide (q0 < 18446744073709551616)) = some (pvO Q' (((b * q0 + R) * 2 ^ d + X) % b) (decide (((b * q0 + R) * 2 ^ d + X) / b < 18446744073709551616)))
      ∧ (((b * q0 + R) * 2 ^ d + X) / b < 18446744073709551616 → Q' = ((b * q0 + R) * 2 ^ d + X) / b) ∧ 0 ≤ Q' ∧ Q' < 18446744073709551616 := by
  induction d with
  | zero =>
    intro i H L Q R q0 X S hi hd hH0 hH hL0 hL hHL hX0 hX hS hMS hq0 hR0 hR hQ hQ0 hQ1
    obtain rfl : X = 0 := by have : X < 1 := hX; omega
    have e : (b * q0 + R) * 2 ^ 0 + 0 = R + b * q0 := by rw [Int.pow_zero, Int.mul_one, Int.add_zero, Int.add_comm]
    have hu : (R + b * q0) / b = q0 ∧ (R + b * q0) % b = R := (Int.ediv_emod_unique hb).2 ⟨rfl, hR0, hR⟩
    rw [e, hu.1, hu.2]
    refine ⟨Q, ?_, hQ, hQ0, hQ1⟩
    rw [f177.l0a_eq]
    exact im (by rw [decide_eq_true_eq]; omega) rfl
  | succ d ih =>
    intro i H L Q R q0 X S hi hd hH0 hH hL0 hL hHL hX0 hX hS hMS hq0 hR0 hR hQ hQ0 hQ1
    have hM2 : (2 : Int) ^ (d + 1) = 2 ^ d * 2 := Int.pow_succ ..
    have hMp : (0 : Int) < 2 ^ d := Int.pow_pos (by decide)
    rw [hM2] at hX hMS
    have hMS' : 2 ^ d * S = 170141183460469231731687303715884105728 := by
      rw [Int.mul_assoc, Int.mul_comm 2 S, ← Int.mul_assoc] at hMS
      omega
    -- the bit
    obtain ⟨bit, X', hbit, hbX, hX'0, hX', hH63, hXS⟩ : ∃ bit X' : Int, (bit = 0 ∨ bit = 1) ∧ X = bit * 2 ^ d + X' ∧ 0 ≤ X' ∧ X' < 2 ^ d ∧ H / 9223372036854775808 = bit ∧ X' * (2 * S) = 2 * (H * 18446744073709551616 + L) - bit * 340282366920938463463374607431768211456 := by
      by_cases hc : 2 ^ d ≤ X
      · refine ⟨1, X - 2 ^ d, .inr rfl, by omega, by omega, by omega, ?_, ?_⟩
        · have := Int.mul_le_mul_of_nonneg_right hc (Int.le_of_lt hS)
          omega
        · rw [hHL, Int.sub_mul, Int.mul_left_comm X 2 S, Int.mul_left_comm (2 ^ d) 2 S, hMS']; omega
      · refine ⟨0, X, .inl rfl, by omega, by omega, by omega, ?_, ?_⟩
        · have := Int.mul_lt_mul_of_pos_right (Int.lt_of_not_ge hc) hS
          omega
        · rw [hHL, Int.mul_left_comm X 2 S]; omega
    have hbit01 : 0 ≤ bit ∧ bit ≤ 1 := by omega
    have hN : ∀ c : Int, (b * q0 + R) * 2 ^ (d + 1) + X = (b * (2 * q0 + c) + (2 * R + bit - c * b)) * 2 ^ d + X' := by
      intro c
      rw [hM2, hbX]
      generalize (2 : Int) ^ d = M
      grind
    have eH : IntKind.u64.wrap (IntKind.u64.wrap (H * 2) + IntKind.u64.wrap (Int.tdiv L 9223372036854775808)) = 2 * H - bit * 18446744073709551616 + L / 9223372036854775808 := by
      rw [Int.tdiv_eq_ediv_of_nonneg hL0]; simp only [u64w]; omega
    have eL : IntKind.u64.wrap (L * 2) = 2 * L % 18446744073709551616 := by rw [u64w, Int.mul_comm]
    have eR : IntKind.u64.wrap (IntKind.u64.wrap (R * 2) + IntKind.u64.wrap (Int.tdiv H 9223372036854775808)) = 2 * R + bit := by
      rw [Int.tdiv_eq_ediv_of_nonneg hH0, hH63]; simp only [u64w]; omega
    have hi1 : IntKind.i64.wrap (i + 1) = i + 1 := w64 (by omega) (by omega)
    have go : ∀ (c Q1 : Int), (c = 0 ∨ c = 1) → (c = 1 ↔ b ≤ 2 * R + bit) → Q1 = (if c = 1 then IntKind.u64.wrap (IntKind.u64.wrap (Q * 2) + 1) else IntKind.u64.wrap (Q * 2)) →
        ∃ Q', f177.l0a 0 b (IntKind.i64.wrap (i + 1)) (2 * H - bit * 18446744073709551616 + L / 9223372036854775808) (2 * L % 18446744073709551616) 0 0 false Q1 (2 * R + bit - c * b) (decide (2 * q0 + c < 18446744073709551616)) =
          some (pvO Q' (((b * q0 + R) * 2 ^ (d + 1) + X) % b) (decide (((b * q0 + R) * 2 ^ (d + 1) + X) / b < 18446744073709551616))) ∧ (((b * q0 + R) * 2 ^ (d + 1) + X) / b < 18446744073709551616 → Q' = ((b * q0 + R) * 2 ^ (d + 1) + X) / b) ∧ 0 ≤ Q' ∧ Q' < 18446744073709551616 := by
      intro c Q1 hc hcb hQ1e
      rw [hN c, hi1]
      refine ih (i + 1) _ _ Q1 (2 * R + bit - c * b) (2 * q0 + c) X' (2 * S) (by omega) (by omega) ?_ ?_ (by omega) (by omega) ?_ hX'0 hX' (by omega) ?_ (by omega) ?_ ?_ ?_ ?_ ?_
      · omega
      · omega
      · rw [hXS]; omega
      · rw [Int.mul_left_comm, hMS']; decide
      · rcases hc with rfl | rfl <;> omega
      · rcases hc with rfl | rfl <;> omega
      · intro h
        have := hQ (by omega)
        subst this
        rcases hc with rfl | rfl
        · rw [hQ1e, if_neg (by decide), u64w]; omega
        · rw [hQ1e, if_pos rfl, u64w, u64w]; omega
      · rw [hQ1e]; split <;> rw [u64w] <;> omega
      · rw [hQ1e]; split <;> rw [u64w] <;> omega
    have fin : ∀ ok' : Bool, (∀ c : Int, (c = 0 ∨ c = 1) → ok' = decide (2 * q0 + c < 18446744073709551616)) → ∃ Q', (if decide (IntKind.u64.wrap (IntKind.u64.wrap (R * 2) + IntKind.u64.wrap (Int.tdiv H 9223372036854775808)) ≥ b) = true
          then f177.l0a 0 b (IntKind.i64.wrap (i + 1)) (IntKind.u64.wrap (IntKind.u64.wrap (H * 2) + IntKind.u64.wrap (Int.tdiv L 9223372036854775808))) (IntKind.u64.wrap (L * 2)) 0 0 false (IntKind.u64.wrap (IntKind.u64.wrap (Q * 2) + 1)) (IntKind.u64.wrap (IntKind.u64.wrap (IntKind.u64.wrap (R * 2) + IntKind.u64.wrap (Int.tdiv H 9223372036854775808)) - b)) ok'
          else f177.l0a 0 b (IntKind.i64.wrap (i + 1)) (IntKind.u64.wrap (IntKind.u64.wrap (H * 2) + IntKind.u64.wrap (Int.tdiv L 9223372036854775808))) (IntKind.u64.wrap (L * 2)) 0 0 false (IntKind.u64.wrap (Q * 2)) (IntKind.u64.wrap (IntKind.u64.wrap (R * 2) + IntKind.u64.wrap (Int.tdiv H 9223372036854775808))) ok')
          = some (pvO Q' (((b * q0 + R) * 2 ^ (d + 1) + X) % b) (decide (((b * q0 + R) * 2 ^ (d + 1) + X) / b < 18446744073709551616))) ∧ (((b * q0 + R) * 2 ^ (d + 1) + X) / b < 18446744073709551616 → Q' = ((b * q0 + R) * 2 ^ (d + 1) + X) / b) ∧ 0 ≤ Q' ∧ Q' < 18446744073709551616 := by
      intro ok' hok
      rw [eH, eL, eR]
      by_cases hcb : 2 * R + bit ≥ b
      · obtain ⟨Q', h1, h2⟩ := go 1 _ (.inr rfl) ⟨fun _ => hcb, fun _ => rfl⟩ (by rw [if_pos rfl])
        refine ⟨Q', ip (decide_eq_true hcb) ?_, h2⟩
        rw [u64i (x := 2 * R + bit - b) (by omega) (by omega), hok 1 (.inr rfl)]
        rw [Int.one_mul] at h1
        exact h1
      · obtain ⟨Q', h1, h2⟩ := go 0 _ (.inl rfl) ⟨fun h => by omega, fun h => absurd h hcb⟩ (by rw [if_neg (by decide)])
        refine ⟨Q', im (by rw [decide_eq_true_eq]; exact hcb) ?_, h2⟩
        rw [hok 0 (.inl rfl)]
        rw [Int.zero_mul, Int.sub_zero] at h1
        exact h1
    by_cases hok : q0 < 18446744073709551616
    · have hQe := hQ hok
      obtain ⟨Q', h1, h2⟩ := fin (decide (Q < 9223372036854775808)) (fun c hc => by rw [hQe]; congr 1; apply propext; omega)
      refine ⟨Q', ?_, h2⟩
      rw [f177.l0a_eq]
      refine ip (by rw [decide_eq_true_eq]; omega) ?_
      rw [bA, tb, decide_eq_true hok, Bool.true_and]
      exact h1
    · obtain ⟨Q', h1, h2⟩ := fin false (fun c hc => by rw [decide_eq_false (by omega)])
      refine ⟨Q', ?_, h2⟩
      rw [f177.l0a_eq]
      refine ip (by rw [decide_eq_true_eq]; omega) ?_
      rw [bA, tb, decide_eq_false hok, Bool.false_and]
      exact h1

theorem divide_ev {H L b : Int} (hb : 0 < b) (hb' : b ≤ 9223372036854775808) (hH0 : 0 ≤ H) (hH : H < 18446744073709551616) (hL0 : 0 ≤ L) (hL : L < 18446744073709551616) :
    ∃ Q', D 177 [.agg [.sc (.int .u64 H), .sc (.int .u64 L)], .sc (.int .u64 b)] = some (pvO Q' ((H * 18446744073709551616 + L) % b) (decide ((H * 18446744073709551616 + L) / b < 18446744073709551616)))
      ∧ ((H * 18446744073709551616 + L) / b < 18446744073709551616 → Q' = (H * 18446744073709551616 + L) / b) ∧ 0 ≤ Q' ∧ Q' < 18446744073709551616 := by
  have := divide_l0 hb hb' 128 0 H L 0 0 0 (H * 18446744073709551616 + L) 1 (by decide) (by decide) hH0 hH hL0 hL (by rw [Int.mul_one]) (by omega) (by show _ < (340282366920938463463374607431768211456 : Int); omega) (by decide) (by decide) (by decide) (by decide) hb (fun _ => rfl) (by decide) (by decide)
  rw [show (b * 0 + 0) * 2 ^ 128 + (H * 18446744073709551616 + L) = H * 18446744073709551616 + L by omega] at this
  rw [f177_eq 0]
  exact this
theorem small_mul {a b : Int} (h0 : 0 ≤ a) (h1 : a ≤ 4294967295) (b0 : 0 ≤ b) (b1 : b ≤ 10000) : 0 ≤ a * b ∧ a * b ≤ 42949672950000 := by
  refine ⟨Int.mul_nonneg h0 b0, ?_⟩
  have := Int.mul_le_mul h1 b1 b0 (by decide : (0 : Int) ≤ 4294967295)
  exact this
theorem timesS_ev {a b : Int} (h0 : 0 ≤ a) (h1 : a < 18446744073709551616) (b0 : 0 ≤ b) (b1 : b ≤ 10000) : D 178 [.sc (.int .u64 a), .sc (.int .u64 b)] = some (.agg [.sc (.int .u64 (a * b / 18446744073709551616)), .sc (.int .u64 (a * b % 18446744073709551616))]) := by
  rw [f178_eq 0]
  have e1 : b.tdiv 4294967296 = 0 := by rw [Int.tdiv_eq_ediv_of_nonneg b0]; omega
  have e2 : b.tmod 4294967296 = b := by rw [Int.tmod_eq_emod_of_nonneg b0]; omega
  have e3 : a.tdiv 4294967296 = a / 4294967296 := Int.tdiv_eq_ediv_of_nonneg h0
  have e4 : a.tmod 4294967296 = a % 4294967296 := Int.tmod_eq_emod_of_nonneg h0
  have k0 : IntKind.u64.wrap 0 = 0 := rfl
  have m1 := small_mul (a := a / 4294967296) (by omega) (by omega) b0 b1
  have m2 := small_mul (a := a % 4294967296) (by omega) (by omega) b0 b1
  have hp : a * b = a / 4294967296 * b * 4294967296 + a % 4294967296 * b := by
    have : a = a / 4294967296 * 4294967296 + a % 4294967296 := by omega
    conv => lhs; rw [this, Int.add_mul, Int.mul_right_comm]
  rw [hp]
  rw [e1, e2, e3, e4, k0, Int.mul_zero, Int.mul_zero, k0, Int.zero_add, Int.zero_add]
  rw [u64i (x := a / 4294967296) (by omega) (by omega)]
  generalize hx : a / 4294967296 * b = X at *
  generalize hy : a % 4294967296 * b = Y at *
  rw [u64i (x := X) (by omega) (by omega), u64i (x := Y) (by omega) (by omega)]
  have d1 : Y.tdiv 4294967296 = Y / 4294967296 := Int.tdiv_eq_ediv_of_nonneg m2.1
  have d2 : Y.tmod 4294967296 = Y % 4294967296 := Int.tmod_eq_emod_of_nonneg m2.1
  rw [d1, d2, u64i (x := Y / 4294967296) (by omega) (by omega), u64i (x := X + Y / 4294967296) (by omega) (by omega)]
  have d3 : (X + Y / 4294967296).tdiv 4294967296 = (X + Y / 4294967296) / 4294967296 := Int.tdiv_eq_ediv_of_nonneg (by omega)
  have d4 : (X + Y / 4294967296).tmod 4294967296 = (X + Y / 4294967296) % 4294967296 := Int.tmod_eq_emod_of_nonneg (by omega)
  rw [d3, d4]
  generalize hC : X + Y / 4294967296 = C at *
  rw [u64i (x := C % 4294967296) (by omega) (by omega)]
  have d5 : (C % 4294967296).tdiv 4294967296 = 0 := by rw [Int.tdiv_eq_ediv_of_nonneg (by omega)]; omega
  have d6 : (C % 4294967296).tmod 4294967296 = C % 4294967296 := by rw [Int.tmod_eq_emod_of_nonneg (by omega)]; omega
  rw [d5, d6, k0, Int.add_zero]
  simp only [u64w]
  have r1 : C / 4294967296 % 18446744073709551616 % 18446744073709551616 % 18446744073709551616 = (X * 4294967296 + Y) / 18446744073709551616 := by omega
  have r2 : (C % 4294967296 * 4294967296 % 18446744073709551616 + Y % 4294967296) % 18446744073709551616 = (X * 4294967296 + Y) % 18446744073709551616 := by omega
  rw [r1, r2]
/-- Times a small number, if it has room. -/
theorem rscl_ev {a b : Int} (ha : May a) (hb0 : 0 < b) (hb : b ≤ 10000) : D 146 [.sc (.int .i64 a), .sc (.int .i64 b), .sc (.int .i64 1)] = some (pvGa (mulS a b)) := by
  have mb : May b := by unfold May; omega
  have m1 : May 1 := by decide
  have hA := natAbs_lt ha
  rw [f146_eq 0]
  simp only [rmay8_ev ha.i, rmay8_ev mb.i, rmay8_ev m1.i, decide_eq_true ha, decide_eq_true mb, decide_eq_true m1, bs, shb, if_true, tb, bA, bO]
  refine im (by decide) (cb (abs_ev m1) rfl (cb (abs_ev ha) rfl (cb (abs_ev mb) rfl ?_)))
  have eb : (b.natAbs : Int) = b := by omega
  simp only [ti]
  rw [eb]
  refine cb (timesS_ev hA.1 (by omega) (by omega) hb) rfl ?_
  rw [show (((1 : Int).natAbs : Nat) : Int) = 1 from rfl]
  have hp : 0 ≤ (a.natAbs : Int) * b := Int.mul_nonneg hA.1 (by omega)
  have hp2 : (a.natAbs : Int) * b ≤ 9223372036854775807 * 10000 := Int.mul_le_mul hA.2 hb (by omega) (by decide)
  have hab : (a.natAbs : Int) * b = if a < 0 then -(a * b) else a * b := by
    split
    · rw [← Int.neg_mul]; congr 1; omega
    · congr 1; omega
  obtain ⟨Q, h1, h2, h3, h4⟩ := divide_ev (H := (a.natAbs : Int) * b / 18446744073709551616) (L := (a.natAbs : Int) * b % 18446744073709551616) (b := 1) (by decide) (by decide) (by omega) (by omega) (by omega) (by omega)
  have e5 : (a.natAbs : Int) * b / 18446744073709551616 * 18446744073709551616 + (a.natAbs : Int) * b % 18446744073709551616 = (a.natAbs : Int) * b := by omega
  rw [e5, Int.ediv_one, Int.emod_one] at h1
  rw [e5, Int.ediv_one] at h2
  refine cb h1 rfl ?_
  generalize hP : (a.natAbs : Int) * b = p at *
  show (if (!(decide (p < 18446744073709551616)) || decide (Q > 9223372036854775807)) = true then _ else _) = _
  by_cases hm : p ≤ 9223372036854775807
  · have hQ := h2 (by omega)
    subst hQ
    rw [mulS_yes ⟨ha, mb, by unfold May; split at hab <;> omega⟩]
    refine im (by simp; omega) (im (show ¬ decide (IntKind.u64.wrap (1 - 0) ≤ (0 : Int)) = true by decide) ?_)
    show f146.j0a 0 a b 1 Q 0 false = _
    rw [f146.j0a_eq]
    refine im (by rw [decide_eq_true_eq]; omega) ?_
    have db : decide (b < 0) = false := decide_eq_false (by omega)
    rw [w64 (x := Q) (by omega) (by omega)]
    by_cases ha0 : a < 0
    · rw [if_pos ha0] at hab
      refine ip (by rw [decide_eq_true ha0, db]; rfl) (im (by decide) ?_)
      rw [w64 (by omega) (by omega)]
      exact congrArg (fun z => some (pvGa (z, true))) (by omega)
    · rw [if_neg ha0] at hab
      refine im (by rw [decide_eq_false ha0, db]; decide) (im (by decide) ?_)
      exact congrArg (fun z => some (pvGa (z, true))) (by omega)
  · rw [mulS_no (by unfold May; split at hab <;> omega)]
    refine ip ?_ rfl
    rw [Bool.or_eq_true]
    by_cases h5 : p < 18446744073709551616
    · have hQ := h2 h5
      exact .inr (by rw [decide_eq_true_eq]; omega)
    · exact .inl (by rw [decide_eq_false h5]; rfl)
theorem bt46 {l : List UInt8} {i : Nat} (h : i < l.length) : ((bt (B l) (i : Int)) == 46) = (l[i] == 46) := by
  rw [B_bt h, Bool.eq_iff_iff, beq_iff_eq, beq_iff_eq]
  constructor
  · intro h2
    have : l[i].toNat = (46 : UInt8).toNat := by have : (46 : UInt8).toNat = 46 := rfl; omega
    exact UInt8.toNat_inj.1 this
  · intro h2; rw [h2]; rfl
end Go.Den.EX
/- Which decimal a text means: the reference; with which one a text begins: both. -/
set_option linter.unusedVariables false
set_option linter.unusedSimpArgs false
set_option maxRecDepth 100000
namespace Go.Den.EX
open Go Go.Proofs
theorem digit_g (l : List UInt8) (i : Nat) : D 93 [.sc (.string (B l)), .sc (.int .i64 (i : Int))] = some (.sc (.bool (isDp l i))) := by
  rw [f93_eq 0, isDp_eq]
  by_cases h : i < l.length
  · have c1 : decide ((i : Int) < ((B l).size : Int)) = true := by rw [decide_eq_true_eq, B_size]; omega
    have c2 : (0 : Int) ≤ (i : Int) := by omega
    have c3 : (i : Int) < ((B l).size : Int) := by rw [B_size]; omega
    rw [dif_pos h, c1, B_bt h]
    have e1 : decide ((l[i].toNat : Int) ≥ 48) = decide (48 ≤ l[i].toNat) := decide_eq_decide.2 (by omega)
    have e2 : decide ((l[i].toNat : Int) ≤ 57) = decide (l[i].toNat ≤ 57) := decide_eq_decide.2 (by omega)
    rw [e1, e2]
    simp only [if_pos c2, if_pos c3, bs, tb, if_true, bA]
    rfl
  · have c1 : decide ((i : Int) < ((B l).size : Int)) = false := by rw [decide_eq_false_iff_not, B_size]; omega
    rw [dif_neg h, c1]
    rfl
theorem pdigit_g (l : List UInt8) (i : Nat) : D 163 [.sc (.string (B l)), .sc (.int .i64 (i : Int))] = some (.sc (.bool (isDp l i))) := by
  rw [f163_eq 0, isDp_eq]
  by_cases h : i < l.length
  · have c1 : decide ((i : Int) < ((B l).size : Int)) = true := by rw [decide_eq_true_eq, B_size]; omega
    have c2 : (0 : Int) ≤ (i : Int) := by omega
    have c3 : (i : Int) < ((B l).size : Int) := by rw [B_size]; omega
    rw [dif_pos h, c1, B_bt h]
    have e1 : decide ((l[i].toNat : Int) ≥ 48) = decide (48 ≤ l[i].toNat) := decide_eq_decide.2 (by omega)
    have e2 : decide ((l[i].toNat : Int) ≤ 57) = decide (l[i].toNat ≤ 57) := decide_eq_decide.2 (by omega)
    rw [e1, e2]
    simp only [if_pos c2, if_pos c3, bs, tb, if_true, bA]
    rfl
  · have c1 : decide ((i : Int) < ((B l).size : Int)) = false := by rw [decide_eq_false_iff_not, B_size]; omega
    rw [dif_neg h, c1]
    rfl
theorem dval_g {b : UInt8} (hd : isD b = true) : IntKind.i64.wrap (IntKind.i64.wrap (b.toNat : Int) - 48) = ((b.toNat - 48 : Nat) : Int) := by
  have hb : 48 ≤ b.toNat ∧ b.toNat ≤ 57 := by unfold isD at hd; simpa using hd
  rw [w64 (x := (b.toNat : Int)) (by omega) (by omega), w64 (by omega) (by omega)]; omega
theorem more_g {v c : Nat} (hc : c ≤ 9) : D 110 [.agg [.sc (.int .i64 (gotN v).1), .sc (.bool (gotN v).2)], .sc (.int .i64 (c : Int))] = some (pvGa (gotN (v * 10 + c))) := by
  rw [f110_eq 0]
  by_cases hv : (v : Int) ≤ 9223372036854775807
  · rw [gotN_yes hv]
    have m1 : May (v : Int) := by unfold May; omega
    have m2 : May (c : Int) := by unfold May; omega
    refine im (show ¬ (!true) = true by decide) (cb (rscl_ev m1 (by decide) (by decide)) rfl ?_)
    by_cases h3 : (v : Int) * 10 ≤ 9223372036854775807
    · have em : mulS (v : Int) 10 = ((v : Int) * 10, true) := mulS_yes ⟨m1, by decide, by unfold May; omega⟩
      rw [em]
      refine im (by show ¬ (!true) = true; decide) (cb (radd_ev (a := (v : Int) * 10) (by unfold I64; omega) m2.i) rfl ?_)
      by_cases h4 : ((v * 10 + c : Nat) : Int) ≤ 9223372036854775807
      · rw [gotN_yes h4]
        have ea : addS ((v : Int) * 10) (c : Int) = ((v : Int) * 10 + (c : Int), true) := addS_yes ⟨by unfold May; omega, m2, by unfold May; omega⟩
        rw [ea]
        exact congrArg (fun z => some (pvGa (z, true))) (by omega)
      · rw [gotN_no h4]
        have ea : addS ((v : Int) * 10) (c : Int) = (0, false) := addS_no (by unfold May; omega)
        rw [ea]
        rfl
    · rw [gotN_no (by omega)]
      have em : mulS (v : Int) 10 = (0, false) := mulS_no (by unfold May; omega)
      rw [em]
      exact ip (by show (!false) = true; decide) rfl
  · rw [gotN_no hv, gotN_no (by omega)]
    exact ip (by decide) rfl
theorem rread_l3 {m : Bool} (d : Nat) : ∀ (b v : Nat), b + d = 4 → f66.l3a 0 m (b : Int) 0 false (gotN v).1 (gotN v).2 = some (pvGa (finN m (v * 10 ^ d))) := by
  induction d with
  | zero =>
    intro b v h
    rw [f66.l3a_eq]
    refine im (by rw [decide_eq_true_eq]; omega) ?_
    rw [Nat.pow_zero, Nat.mul_one]
    unfold finN
    by_cases hv : (v : Int) ≤ 9223372036854775807
    · rw [gotN_yes hv, if_pos hv]
      cases m
      · exact im (by decide) rfl
      · refine ip rfl ?_
        rw [w64 (by omega) (by omega), Int.zero_sub]; rfl
    · rw [gotN_no hv, if_neg hv]
      cases m
      · exact im (by decide) rfl
      · exact ip rfl rfl
  | succ d ih =>
    intro b v h
    rw [f66.l3a_eq]
    refine ip (by rw [decide_eq_true_eq]; omega) (cb (more_g (v := v) (c := 0) (by decide)) rfl ?_)
    rw [nx (i := b) (n := 4) (by omega) (by decide)]
    have := ih (b + 1) (v * 10 + 0) (by omega)
    rw [show v * 10 ^ (d + 1) = (v * 10 + 0) * 10 ^ d by rw [Nat.pow_succ, Nat.add_zero, Nat.mul_assoc, Nat.mul_comm (10 ^ d)]]
    exact this
theorem rread_end {m : Bool} {w : List UInt8} {b : Option Nat} {v : Nat} {i : Nat} (hi : i = w.length) : f66.l1a 0 (B w) m (bI b) (i : Int) 0 false (gotN v).1 (gotN v).2 = some (pvGa (finL (w == []) m (some (b, v)))) := by
  rw [f66.l1a_eq]
  refine im (by rw [decide_eq_true_eq, B_size]; omega) ?_
  rw [bO, bO, finL_some]
  by_cases hc : (w == []) = true ∨ b = some 0 ∨ 4 < b.getD 0
  · rw [if_pos hc]
    refine ip ?_ rfl
    rw [tb, tb, B_size]
    simp only [Bool.or_eq_true, beq_iff_eq, decide_eq_true_eq]
    rcases hc with h | h | h
    · left; left
      have : w = [] := by simpa using h
      rw [this]; rfl
    · left; right; rw [h]; rfl
    · right
      rcases b with _ | b
      · exact absurd h (by decide)
      · have h2 : 4 < b := h
        show (b : Int) > 4; omega
  · rw [if_neg hc]
    refine im ?_ ?_
    · rw [tb, tb, B_size]
      simp only [Bool.or_eq_true, beq_iff_eq, decide_eq_true_eq]
      intro h
      apply hc
      rcases h with (h | h) | h
      · left
        have : w = [] := List.eq_nil_of_length_eq_zero (by omega)
        rw [this]; rfl
      · right; left
        rcases b with _ | b
        · exact absurd h (by decide)
        · have h2 : (b : Int) = 0 := h
          rw [show b = 0 by omega]
      · right; right
        rcases b with _ | b
        · exact absurd h (by decide)
        · have h2 : (b : Int) > 4 := h
          show 4 < b; omega
    · have e : (if 0 > bI b then 0 else bI b) = ((b.getD 0 : Nat) : Int) := by
        rcases b with _ | b
        · rfl
        · show (if 0 > (b : Int) then 0 else (b : Int)) = (b : Int)
          rw [if_neg (by omega)]
      rw [e]
      refine rread_l3 (4 - b.getD 0) (b.getD 0) v ?_
      have : ¬ 4 < b.getD 0 := fun h => hc (Or.inr (Or.inr h))
      omega
theorem rread_l1 {m : Bool} {w : List UInt8} (hw : w.length ≤ 1000) (d : Nat) : ∀ (i : Nat) (b : Option Nat) (v : Nat), i + d = w.length → b.getD 0 ≤ i →
    f66.l1a 0 (B w) m (bI b) (i : Int) 0 false (gotN v).1 (gotN v).2 = some (pvGa (finL (w == []) m (scanL (w.drop i) (decide (0 < i)) b v))) := by
  induction d with
  | zero =>
    intro i b v h _
    rw [List.drop_eq_nil_of_le (by omega), scanL]
    exact rread_end (by omega)
  | succ d ih =>
    intro i b v h hb
    have hi : i < w.length := by omega
    have c2 : (0 : Int) ≤ (i : Int) := by omega
    have c3 : (i : Int) < ((B w).size : Int) := by rw [B_size]; omega
    rw [f66.l1a_eq]
    refine ip (by rw [decide_eq_true_eq]; exact c3) (ip c2 (ip c3 ?_))
    rw [bA, bA]
    rw [List.drop_eq_getElem_cons hi, scanL]
    have hD := digit_g w i
    rw [isDp_eq, dif_pos hi] at hD
    have ho : decide (bI b < 0) = decide (b = none) := by
      rcases b with _ | b
      · rfl
      · rw [decide_eq_false (show ¬ bI (some b) < 0 by show ¬ (b : Int) < 0; omega)]; rfl
    have hz : decide ((i : Int) > 0) = decide (0 < i) := decide_eq_decide.2 (by omega)
    by_cases hp : w[i] = 46 ∧ b = none ∧ decide (0 < i) = true
    · rw [if_pos hp]
      obtain ⟨h1, rfl, h3⟩ := hp
      refine ip (show ((((bt (B w) (i : Int)) == 46) && decide (bI none < 0)) && decide ((i : Int) > 0)) = true by rw [bt46 hi, h1, ho, hz, h3]; rfl) ?_
      rw [nx hi (by omega)]
      have := ih (i + 1) (some 0) v (by omega) (Nat.zero_le _)
      rw [decide_eq_true (show 0 < i + 1 by omega)] at this
      exact this
    · rw [if_neg hp]
      refine im (show ¬ ((((bt (B w) (i : Int)) == 46) && decide (bI b < 0)) && decide ((i : Int) > 0)) = true from fun hh => hp (by
        rw [bt46 hi, ho, hz] at hh
        simp only [Bool.and_eq_true, beq_iff_eq, decide_eq_true_eq] at hh
        exact ⟨hh.1.1, hh.1.2, by rw [decide_eq_true_eq]; exact hh.2⟩)) (cb hD rfl ?_)
      by_cases hd : isD w[i] = true
      · rw [if_pos hd]
        refine im (by rw [hd]; decide) ?_
        have hdv := dval_g hd
        have hr : 48 ≤ w[i].toNat ∧ w[i].toNat ≤ 57 := by unfold isD at hd; simpa using hd
        have j : ∀ b2 : Option Nat, b2.getD 0 ≤ i + 1 → f66.j2a 0 (B w) m (bI b2) (i : Int) 0 false (gotN v).1 (gotN v).2 = some (pvGa (finL (w == []) m (scanL (w.drop (i + 1)) true b2 (v * 10 + (w[i].toNat - 48))))) := by
          intro b2 hb2
          rw [f66.j2a_eq]
          refine ip c2 (ip c3 ?_)
          rw [B_bt hi, hdv, nx hi (by omega)]
          refine cb (more_g (v := v) (c := w[i].toNat - 48) (by omega)) rfl ?_
          have := ih (i + 1) b2 (v * 10 + (w[i].toNat - 48)) (by omega) hb2
          rw [decide_eq_true (show 0 < i + 1 by omega)] at this
          exact this
        rcases b with _ | b
        · exact im (by decide) (j none (Nat.zero_le _))
        · have hb2 : b ≤ i := hb
          refine ip (show decide ((b : Int) ≥ 0) = true by rw [decide_eq_true_eq]; omega) ?_
          rw [show IntKind.i64.wrap (bI (some b) + 1) = bI (some (b + 1)) from (w64 (x := (b : Int) + 1) (by omega) (by omega)).trans (by show (b : Int) + 1 = ((b + 1 : Nat) : Int); omega)]
          exact j (some (b + 1)) (by show b + 1 ≤ i + 1; omega)
      · rw [if_neg hd]
        exact ip (show (!(isD w[i])) = true by simpa using hd) rfl
theorem rread_ev (l : List UInt8) (hl : l.length ≤ 1000000) : D 66 [.sc (.string (B l))] = some (pvGa (readL l)) := by
  rw [f66_eq 0]
  by_cases h40 : l.length ≤ 40
  · refine im (by rw [decide_eq_true_eq, B_size]; omega) ?_
    rw [← fin_read (l := l) (by omega)]
    have hb := body_len l
    have main := rread_l1 (m := minusL l) (w := bodyL l) (by omega) (bodyL l).length 0 none 0 (Nat.zero_add _) (Nat.zero_le _)
    rw [List.drop_zero] at main
    have jm : f66.j0a 0 (B (bodyL l)) (minusL l) 0 false = some (pvGa (finL (bodyL l == []) (minusL l) (scanL (bodyL l) (decide (0 < 0)) none 0))) := by
      rw [f66.j0a_eq]
      exact main
    rcases l with _ | ⟨b, l⟩
    · exact jm
    · obtain ⟨e1, e2⟩ := minus_eq b l
      have c1 : decide (((B (b :: l)).size : Int) > 0) = true := by rw [B_size, List.length_cons, decide_eq_true_eq]; omega
      have c2 : (0 : Int) < ((B (b :: l)).size : Int) := by rw [B_size, List.length_cons]; omega
      have h0 : bt (B (b :: l)) 0 = (b.toNat : Int) := B_bt (l := b :: l) (i := 0) (by simp)
      rw [c1, h0, if_pos c2]
      simp only [bs, tb, if_true]
      rw [e1, e2] at jm
      rw [e1, e2]
      by_cases hm : ((b.toNat : Int) == 45) = true
      · rw [if_pos hm] at jm ⊢
        refine ip hm (ip (by omega) (ip (Int.le_refl _) (ip (by rw [B_size, List.length_cons]; omega) ?_)))
        have e3 : (B (b :: l)).extract 1 (((B (b :: l)).size : Int).toNat) = B l := by
          rw [B_extract, Int.toNat_natCast, B_size]; simp
        rw [e3]
        exact jm
      · rw [if_neg hm] at jm ⊢
        exact im hm jm
  · rw [show readL l = (0, false) from if_neg (fun hh => h40 hh.1)]
    exact ip (by rw [decide_eq_true_eq, B_size]; omega) rfl
end Go.Den.EX
/- The decimal with which a text begins: both. -/
set_option linter.unusedVariables false
set_option linter.unusedSimpArgs false
set_option maxRecDepth 100000
namespace Go.Den.EX
open Go Go.Proofs
def pvT (g : Int × Int × Bool) : PV := .tup [.sc (.int .i64 g.1), .sc (.int .i64 g.2.1), .sc (.bool g.2.2)]
def pvTa (g : Int × Int × Bool) : PV := .agg [.sc (.int .i64 g.1), .sc (.int .i64 g.2.1), .sc (.bool g.2.2)]
theorem lead_j2 {l : List UInt8} (hl : l.length ≤ 1000000) {n : Nat} (hn : n ≤ l.length) : f128.j2a 0 (B l) (n : Int) = some (pvT (leadR l n)) := by
  rw [f128.j2a_eq]
  have := take_len l n
  refine ip (by omega) (ip (by rw [B_size]; omega) (ip (by omega) ?_))
  rw [take_ext]
  refine cb (read_ev (l := l.take n) (by omega)) rfl ?_
  unfold leadR
  by_cases h : (readL (l.take n)).2 = true
  · rw [if_pos h]
    exact im (show ¬ (!(readL (l.take n)).2) = true by rw [h]; decide) rfl
  · rw [if_neg h]
    exact ip (show (!(readL (l.take n)).2) = true by simpa using h) rfl
theorem lead_l1 {l : List UInt8} (hl : l.length ≤ 1000000) {n : Nat} (hn : n < l.length) (d : Nat) : ∀ e : Nat, e + d = n + 5 → e ≤ l.length →
    f128.l1a 0 (B l) (n : Int) (e : Int) = some (pvT (leadR l (e + runD d (l.drop e)))) := by
  have e4 : IntKind.i64.wrap ((n : Int) + 4) = (n : Int) + 4 := w64 (by omega) (by omega)
  induction d with
  | zero =>
    intro e h he
    rw [f128.l1a_eq, e4]
    have c : decide ((e : Int) ≤ (n : Int) + 4) = false := by rw [decide_eq_false_iff_not]; omega
    rw [c]
    simp only [bs, tb, Bool.false_eq_true, if_false]
    exact lead_j2 hl he
  | succ d ih =>
    intro e h he
    rw [f128.l1a_eq, e4]
    have c : decide ((e : Int) ≤ (n : Int) + 4) = true := by rw [decide_eq_true_eq]; omega
    rw [c]
    simp only [pdigit_g, bs, shb, tb, if_true]
    rw [runD_step]
    by_cases hd : isDp l e = true
    · have h1 := dp_lt hd
      rw [if_pos hd]
      refine ip hd ?_
      rw [nx h1 (by omega), ← Nat.add_assoc]
      exact ih (e + 1) (by omega) (by omega)
    · rw [if_neg hd]
      exact im hd (lead_j2 hl he)
theorem lead_mid {l : List UInt8} (hl : l.length ≤ 1000000) {n : Nat} (hn : n ≤ l.length) {c : Bool} (hc : c = false) : (if c = true then f128.l0a 0 (B l) (IntKind.i64.wrap ((n : Int) + 1)) else
    Option.bind (α := PV) (if decide ((n : Int) > 0) = true then some (.sc (.bool (decide ((n : Int) < ((B l).size : Int))))) else some (.sc (.bool false))) fun r5 =>
    Option.bind (α := PV) (if r5.toBool = true then Option.bind (α := PV) (Option.bind (α := PV) (if 0 ≤ (n : Int) then if (n : Int) < ((B l).size : Int) then some (.sc (.bool ((bt (B l) (n : Int)) == 46))) else none else none) fun r6 => some (.sc (.bool r6.toBool))) fun r7 => some (.sc (.bool r7.toBool)) else some (.sc (.bool false))) fun r8 =>
    Option.bind (α := PV) (if r8.toBool = true then Option.bind (α := PV) (Option.bind (α := PV) (Option.bind (α := PV) ((D 163 [.sc (.string (B l)), .sc (.int .i64 (IntKind.i64.wrap ((n : Int) + 1)))]).bind fun r9 => if hasSh .bool r9 = true then some (.sc (.bool r9.toBool)) else none) fun r10 => some (.sc (.bool r10.toBool))) fun r11 => some (.sc (.bool r11.toBool))) fun r12 => some (.sc (.bool r12.toBool)) else some (.sc (.bool false))) fun r13 =>
    if r13.toBool = true then f128.l1a 0 (B l) (n : Int) (IntKind.i64.wrap ((n : Int) + 1)) else f128.j2a 0 (B l) (n : Int)) = some (pvT (leadR l (leadN l n))) := by
  subst hc
  refine im (by decide) ?_
  have e1 : IntKind.i64.wrap ((n : Int) + 1) = ((n + 1 : Nat) : Int) := by rw [w64 (by omega) (by omega)]; rfl
  rw [e1, pdigit_g]
  unfold leadN
  by_cases h0 : 0 < n
  · have c0 : decide ((n : Int) > 0) = true := by rw [decide_eq_true_eq]; omega
    rw [c0]
    by_cases h1 : n < l.length
    · have c1 : decide ((n : Int) < ((B l).size : Int)) = true := by rw [decide_eq_true_eq, B_size]; omega
      have c2 : (0 : Int) ≤ (n : Int) := by omega
      have c3 : (n : Int) < ((B l).size : Int) := by rw [B_size]; omega
      rw [c1, bt46 h1]
      simp only [bs, tb, shb, if_true, if_pos c2, if_pos c3]
      by_cases h2 : l[n] = 46
      · have e2 : (l[n] == 46) = true := by rw [h2]; rfl
        rw [e2]
        simp only [bs, tb, if_true]
        have hh : (l.drop n).head? = some 46 := by rw [List.drop_eq_getElem_cons h1, h2]; rfl
        by_cases h3 : isDp l (n + 1) = true
        · rw [if_pos ⟨h0, hh, h3⟩]
          refine ip h3 ?_
          have := dp_lt h3
          exact lead_l1 hl h1 4 (n + 1) (by omega) (by omega)
        · rw [if_neg (fun z => h3 z.2.2)]
          exact im h3 (lead_j2 hl hn)
      · have e2 : (l[n] == 46) = false := beq_eq_false_iff_ne.2 h2
        rw [e2]
        simp only [bs, tb, Bool.false_eq_true, if_false]
        rw [if_neg (fun z => h2 (by have := z.2.1; rw [List.drop_eq_getElem_cons h1] at this; exact Option.some.inj this))]
        exact lead_j2 hl hn
    · have c1 : decide ((n : Int) < ((B l).size : Int)) = false := by rw [decide_eq_false_iff_not, B_size]; omega
      rw [c1]
      simp only [bs, tb, if_true, Bool.false_eq_true, if_false]
      rw [if_neg (fun z => by have := z.2.1; rw [List.drop_eq_nil_of_le (by omega)] at this; cases this)]
      exact lead_j2 hl hn
  · have c0 : decide ((n : Int) > 0) = false := by rw [decide_eq_false_iff_not]; omega
    rw [c0]
    simp only [bs, tb, Bool.false_eq_true, if_false]
    rw [if_neg (fun z => h0 z.1)]
    exact lead_j2 hl hn
theorem lead_l0 {l : List UInt8} (hl : l.length ≤ 1000000) (d : Nat) : ∀ i : Nat, i + d = 30 → i ≤ l.length → f128.l0a 0 (B l) (i : Int) = some (pvT (leadR l (leadN l (i + runD d (l.drop i))))) := by
  induction d with
  | zero =>
    intro i h hi
    rw [f128.l0a_eq]
    have c : decide ((i : Int) < 30) = false := by rw [decide_eq_false_iff_not]; omega
    rw [c]
    exact lead_mid hl hi rfl
  | succ d ih =>
    intro i h hi
    rw [f128.l0a_eq]
    have c : decide ((i : Int) < 30) = true := by rw [decide_eq_true_eq]; omega
    rw [c, pdigit_g]
    rw [runD_step]
    by_cases hd : isDp l i = true
    · have h1 := dp_lt hd
      rw [if_pos hd, hd]
      simp only [bs, shb, tb, if_true]
      rw [nx h1 (by omega), ← Nat.add_assoc]
      exact ih (i + 1) (by omega) (by omega)
    · have hd' : isDp l i = false := by simpa using hd
      rw [if_neg hd, hd']
      exact lead_mid hl hi rfl
theorem leadR_L (l : List UInt8) : leadR l (leadN l (0 + runD 30 (l.drop 0))) = leadL l := by
  rw [Nat.zero_add, List.drop_zero]; rfl
theorem lead_ev {l : List UInt8} (hl : l.length ≤ 1000000) : D 128 [.sc (.string (B l))] = some (pvT (leadL l)) := by
  rw [f128_eq 0]
  have := lead_l0 hl 30 0 rfl (Nat.zero_le _)
  rw [leadR_L] at this
  exact this
end Go.Den.EX
/- strings.Builder: what is written. -/
set_option linter.unusedVariables false
set_option linter.unusedSimpArgs false
set_option maxRecDepth 100000
namespace Go.Den.EX
open Go Go.Proofs
def bld (xs : List PV) : List PV := [.iptr (.ptr 138 0 :: [.selfp 0, .buf 1 0]), .tup (.ptr 5 0 :: xs)]
theorem sb (l : List UInt8) : strB (B l) = l.map fun b => .sc (.int .u8 b.toNat) := rfl
theorem sb_len (l : List UInt8) : (strB (B l)).length = l.length := by rw [sb, List.length_map]
theorem sb_snoc (l : List UInt8) (b : UInt8) : strB (B l) ++ [.sc (.int .u8 (b.toNat : Int))] = strB (B (l ++ [b])) := by rw [sb, sb]; simp
theorem bcheck_ev (xs : List PV) : D 154 [.hp (bld xs), .ptr 0 0] = some (.tup [.hp (bld xs), .tup []]) := by
  have e : D 154 [.hp (bld xs), .ptr 0 0] = xCopyCheck [.hp (bld xs), .ptr 0 0] := (denI_eq 0 _ _).trans (by kernel_rfl)
  rw [e]
  rfl
theorem byteOk_strB (s : ByteArray) : (strB s).all byteOk = true := by
  unfold strB
  rw [List.all_eq_true]
  intro x hx
  obtain ⟨b, _, rfl⟩ := List.mem_map.1 hx
  have := b.toNat_lt
  simp [byteOk]
  omega
theorem bytesOf_strB (s : ByteArray) : bytesOf (strB s) = s := by
  obtain ⟨l, rfl⟩ := B_of s
  have h : ∀ l : List UInt8, (l.map fun b => PV.sc (.int .u8 (b.toNat : Int))).map (fun x => UInt8.ofNat x.toInt.toNat) = l := by
    intro l
    induction l with
    | nil => rfl
    | cons b l ih =>
      rw [List.map_cons, List.map_cons, ih]
      congr 1
      show UInt8.ofNat ((b.toNat : Int)).toNat = b
      simp
  unfold bytesOf strB
  rw [B_data, h]
  rfl
theorem strB_append (s t : ByteArray) : strB s ++ strB t = strB (s ++ t) := by
  obtain ⟨l, rfl⟩ := B_of s
  obtain ⟨m, rfl⟩ := B_of t
  rw [B_append]
  simp [strB, B]
theorem bwb_ev (s : List UInt8) (b : UInt8) (h : s.length ≤ 1000000) : D 164 [.hp (bld (strB (B s))), .ptr 0 0, .sc (.int .u8 (b.toNat : Int))] = some (.tup [.hp (bld (strB (B (s ++ [b])))), .top]) := by
  refine (f164h_eq 0 (b.toNat : Int) (strB (B s))).trans (hb (bcheck_ev (strB (B s))) rfl rfl ?_)
  have e := sb_len s
  refine ip (by show ((strB (B s)).length + 1) * 1 ≤ _ ∧ (strB (B s)).length + 1 ≤ _; omega) ?_
  show some (PV.tup [.hp (bld (strB (B s) ++ [.sc (.int .u8 (b.toNat : Int))])), .top]) = _
  rw [sb_snoc]
theorem bstr_ev (l : List UInt8) : D 117 [.hp (bld (strB (B l))), .ptr 0 0] = some (.tup [.hp [.top, .top], .sc (.string (B l))]) := by
  have e : D 117 [.hp (bld (strB (B l))), .ptr 0 0] = xBString [.hp (bld (strB (B l))), .ptr 0 0] := (denI_eq 0 _ _).trans (by kernel_rfl)
  rw [e]
  refine (if_pos ⟨rfl, rfl, byteOk_strB (B l)⟩).trans ?_
  rw [bytesOf_strB]
end Go.Den.EX
/- What is put in the place of a text; texts within marks: the plain part. -/
set_option linter.unusedVariables false
set_option linter.unusedSimpArgs false
namespace Go.Den
open Go Go.Proofs
theorem idx_cons (b : UInt8) (l o : List UInt8) (h : o.isPrefixOf (b :: l) = false) : (Lib.index l o = -1 ∧ Lib.index (b :: l) o = -1) ∨ ∃ i : Nat, Lib.index l o = i ∧ Lib.index (b :: l) o = ((i + 1 : Nat) : Int) := by
  have e : Lib.index (b :: l) o = if Lib.index l o == -1 then -1 else Lib.index l o + 1 := by
    conv => lhs; unfold Lib.index
    rw [if_neg (by rw [h]; decide)]
  have hg := Lib.index_ge l o
  by_cases hm : Lib.index l o = -1
  · exact .inl ⟨hm, by rw [e, hm]; rfl⟩
  · refine .inr ⟨(Lib.index l o).toNat, by omega, ?_⟩
    rw [e, if_neg (by simpa using hm)]; omega
theorem idx_hit (b : UInt8) (l o : List UInt8) (h : o.isPrefixOf (b :: l) = true) : Lib.index (b :: l) o = ((0 : Nat) : Int) := by
  unfold Lib.index
  rw [if_pos h]; rfl
theorem cnt_hit {b : UInt8} {l o : List UInt8} (ho : o ≠ []) (h : o.isPrefixOf (b :: l) = true) : Lib.count (b :: l) o = 1 + Lib.count ((b :: l).drop o.length) o := by
  have := Lib.count_hit ho (idx_hit b l o h)
  rwa [Nat.zero_add] at this
theorem cnt_miss {b : UInt8} {l o : List UInt8} (ho : o ≠ []) (h : o.isPrefixOf (b :: l) = false) : Lib.count (b :: l) o = Lib.count l o := by
  rcases idx_cons b l o h with ⟨h1, h2⟩ | ⟨i, h1, h2⟩
  · rw [Lib.count_miss h1, Lib.count_miss h2]
  · rw [Lib.count_hit ho h1, Lib.count_hit ho h2, show i + 1 + o.length = (i + o.length) + 1 by omega, List.drop_succ_cons]
theorem cnt_nil {o : List UInt8} (ho : o ≠ []) : Lib.count [] o = 0 := by
  refine Lib.count_miss ?_
  unfold Lib.index
  rw [if_neg (by cases o <;> simp_all)]
/-- What is put. -/
def repR (o n s : List UInt8) : List UInt8 := Lib.replaceK o n (Lib.count s o) s
theorem rep_nil {o n : List UInt8} (ho : o ≠ []) : repR o n [] = [] := by unfold repR; rw [cnt_nil ho]; rfl
theorem rep_hit {b : UInt8} {l o n : List UInt8} (ho : o ≠ []) (h : o.isPrefixOf (b :: l) = true) : repR o n (b :: l) = n ++ repR o n ((b :: l).drop o.length) := by
  unfold repR
  rw [cnt_hit ho h, Nat.add_comm, Lib.replaceK_hit o n _ _ 0 (idx_hit b l o h), Nat.zero_add]
  rfl
theorem rep_miss {b : UInt8} {l o n : List UInt8} (ho : o ≠ []) (h : o.isPrefixOf (b :: l) = false) : repR o n (b :: l) = b :: repR o n l := by
  unfold repR
  rw [cnt_miss ho h]
  rcases idx_cons b l o h with ⟨h1, h2⟩ | ⟨i, h1, h2⟩
  · rw [Lib.count_miss h1]; rfl
  · rw [Lib.count_hit ho h1, Nat.add_comm, Lib.replaceK_hit o n _ _ i h1, Lib.replaceK_hit o n _ _ (i + 1) h2, show i + 1 + o.length = (i + o.length) + 1 by omega, List.drop_succ_cons]
    rfl
theorem rep_ind {o : List UInt8} (ho : o ≠ []) (M : List UInt8 → Prop) (h0 : M []) (h1 : ∀ b l, o.isPrefixOf (b :: l) = true → M ((b :: l).drop o.length) → M (b :: l)) (h2 : ∀ b l, o.isPrefixOf (b :: l) = false → M l → M (b :: l)) : ∀ (d : Nat) (s : List UInt8), s.length ≤ d → M s
  | _, [], _ => h0
  | 0, b :: l, h => by simp at h
  | d + 1, b :: l, h => by
    have hp : 0 < o.length := List.length_pos_iff.2 ho
    cases e : o.isPrefixOf (b :: l)
    · exact h2 b l e (rep_ind ho M h0 h1 h2 d l (by simp at h; omega))
    · exact h1 b l e (rep_ind ho M h0 h1 h2 d _ (by rw [List.length_drop]; simp at h ⊢; omega))
theorem pre_len {o s : List UInt8} (h : o.isPrefixOf s = true) : o.length ≤ s.length ∧ s.take o.length = o := by
  have := List.isPrefixOf_iff_prefix.1 h
  obtain ⟨t, rfl⟩ := this
  exact ⟨by simp, by simp⟩
theorem rep_len {o n : List UInt8} (ho : o ≠ []) (s : List UInt8) : (repR o n s).length + Lib.count s o * o.length = s.length + Lib.count s o * n.length := by
  refine rep_ind ho (fun s => (repR o n s).length + Lib.count s o * o.length = s.length + Lib.count s o * n.length) ?_ ?_ ?_ s.length s (Nat.le_refl _)
  · rw [rep_nil ho, cnt_nil ho]; simp
  · intro b l h ih
    have := (pre_len h).1
    rw [rep_hit ho h, cnt_hit ho h, List.length_append]
    rw [List.length_drop] at ih
    rw [Nat.add_mul, Nat.add_mul, Nat.one_mul, Nat.one_mul]
    omega
  · intro b l h ih
    rw [rep_miss ho h, cnt_miss ho h]
    simp only [List.length_cons]
    omega
theorem rep_same {o : List UInt8} (ho : o ≠ []) (s : List UInt8) : repR o o s = s := by
  refine rep_ind ho (fun s => repR o o s = s) (rep_nil ho) ?_ ?_ s.length s (Nat.le_refl _)
  · intro b l h ih
    rw [rep_hit ho h, ih]
    have := (pre_len h).2
    conv => lhs; lhs; rw [← this]
    exact List.take_append_drop _ _
  · intro b l h ih
    rw [rep_miss ho h, ih]
def dblL : List UInt8 → List UInt8
  | [] => []
  | b :: l => if b = 34 then 34 :: 34 :: dblL l else b :: dblL l
def quoL (l : List UInt8) : List UInt8 := 34 :: (dblL l ++ [34])
theorem rep_dbl : ∀ l : List UInt8, repR [34] [34, 34] l = dblL l
  | [] => rep_nil (by simp)
  | b :: l => by
    rw [dblL]
    by_cases h : b = 34
    · subst h
      rw [if_pos rfl, rep_hit (by simp) (by simp [List.isPrefixOf])]
      show 34 :: 34 :: repR [34] [34, 34] l = _
      rw [rep_dbl l]
    · rw [if_neg h, rep_miss (by simp) (by simp [List.isPrefixOf, Ne.symm h]), rep_dbl l]
theorem dbl_len : ∀ l : List UInt8, (dblL l).length ≤ 2 * l.length
  | [] => by simp [dblL]
  | b :: l => by
    have := dbl_len l
    rw [dblL]
    split <;> simp <;> omega
end Go.Den
/- Texts within marks: both. -/
set_option linter.unusedVariables false
set_option linter.unusedSimpArgs false
set_option maxRecDepth 100000
namespace Go.Den.EX
open Go Go.Proofs
theorem strB_L (l : List UInt8) : strB (B l) = l.map fun b => .sc (.int .u8 b.toNat) := rfl
theorem strB_add (l : List UInt8) (b : UInt8) : strB (B l) ++ [.sc (.int .u8 (b.toNat : Int))] = strB (B (l ++ [b])) := by rw [strB_L, strB_L]; simp
theorem strB_34 (l : List UInt8) : strB (B l) ++ [.sc (.int .u8 34)] = strB (B (l ++ [34])) := strB_add l 34
theorem strB_shp (s : ByteArray) : (strB s).all (hasSh (.int .u8)) = true := by
  rw [List.all_eq_true]
  intro x hx
  unfold strB at hx
  obtain ⟨b, _, rfl⟩ := List.mem_map.1 hx
  rfl
theorem strB_ln (l : List UInt8) : (strB (B l)).length = l.length := by rw [strB_L, List.length_map]
theorem bytes_str (l : List UInt8) : bytesOf (strB (B l)) = B l := by
  have h : ∀ s : ByteArray, bytesOf (strB s) = s := by
    intro s
    unfold bytesOf strB
    rw [List.map_map]
    have e : ((fun x : PV => UInt8.ofNat x.toInt.toNat) ∘ fun b : UInt8 => PV.sc (.int .u8 (b.toNat : Int))) = id := by
      funext b
      show UInt8.ofNat ((b.toNat : Int)).toNat = b
      rw [Int.toNat_natCast]; exact UInt8.ofNat_toNat
    rw [e, List.map_id]
  exact h _
theorem repl_ev (s o n : List UInt8) (hs : s.length ≤ 1000) (hn : n.length ≤ 1000) (ho : o ≠ []) : D 73 [.sc (.string (B s)), .sc (.string (B o)), .sc (.string (B n))] = some (.sc (.string (B (repR o n s)))) := by
  have e : D 73 [.sc (.string (B s)), .sc (.string (B o)), .sc (.string (B n))] = xReplaceAll [.sc (.string (B s)), .sc (.string (B o)), .sc (.string (B n))] := (denI_eq 0 _ _).trans (by kernel_rfl)
  rw [e]
  have hp : 0 < o.length := List.length_pos_iff.2 ho
  have hc : Lib.count s o * n.length ≤ 1001 * 1000 := Nat.mul_le_mul (by have := Lib.count_le s o; omega) hn
  have hcond : (B s).size < 4294967281 ∧ 1 ≤ (B o).size ∧ (B s).size + Lib.countB (B s) (B o) * (B n).size ≤ 140737488355328 := by
    refine ⟨by rw [B_size]; omega, by rw [B_size]; omega, ?_⟩
    rw [B_size, B_size]
    show s.length + Lib.count s o * n.length ≤ _
    omega
  refine (if_pos hcond).trans ?_
  · show some (PV.sc (.string (B (Lib.replaceAll s o n)))) = _
    have e2 : Lib.replaceAll s o n = repR o n s := by
      unfold Lib.replaceAll Lib.replace
      by_cases h : (o == n) = true
      · rw [if_pos h]
        have : o = n := by simpa using h
        subst this
        exact (rep_same ho s).symm
      · rw [if_neg h]
        unfold repR Lib.replaceNum
        rw [if_pos (.inl (by decide))]
    rw [e2]
theorem bt34 {l : List UInt8} {i : Nat} (h : i < l.length) : ((bt (B l) (i : Int)) == 34) = decide (l[i] = 34) := by
  rw [B_bt h, Bool.eq_iff_iff, beq_iff_eq, decide_eq_true_eq]
  constructor
  · intro h2
    have : l[i].toNat = (34 : UInt8).toNat := by have : (34 : UInt8).toNat = 34 := rfl; omega
    exact UInt8.toNat_inj.1 this
  · intro h2; rw [h2]; rfl
theorem rquote_l (l : List UInt8) (hl : l.length ≤ 1000) : ∀ (d i : Nat) (out : List UInt8), i + d = l.length → out.length ≤ 2 * i + 1 → f20.l0a 0 (B l) (i : Int) (strB (B out)) = some (.sc (.string (B (out ++ (dblL (l.drop i) ++ [34]))))) := by
  intro d
  induction d with
  | zero =>
    intro i out h ho
    rw [f20.l0a_eq]
    refine im (by rw [decide_eq_true_eq, B_size]; omega) ?_
    refine ip (by rw [strB_ln]; simp; omega) ?_
    rw [strB_34]
    refine ip (strB_shp _) ?_
    rw [bytes_str, List.drop_eq_nil_of_le (by omega), dblL, List.nil_append]
  | succ d ih =>
    intro i out h ho
    have hi : i < l.length := by omega
    have c1 : (0 : Int) ≤ (i : Int) := by omega
    have c2 : (i : Int) < ((B l).size : Int) := by rw [B_size]; omega
    rw [f20.l0a_eq]
    refine ip (by rw [decide_eq_true_eq]; exact c2) (ip c1 (ip c2 ?_))
    rw [List.drop_eq_getElem_cons hi, dblL]
    by_cases hb : l[i] = 34
    · refine ip (by rw [bt34 hi]; exact decide_eq_true hb) (ip (by rw [strB_ln]; simp; omega) (ip c1 (ip c2 (ip (by rw [strB_34, strB_ln]; simp; omega) ?_))))
      rw [strB_34, B_bt hi, strB_add, hb, if_pos rfl, nx hi (by omega), ih (i + 1) (out ++ [34] ++ [34]) (by omega) (by simp; omega)]
      simp
    · refine im (by rw [bt34 hi]; simpa using hb) (ip c1 (ip c2 (ip (by rw [strB_ln]; simp; omega) ?_)))
      rw [B_bt hi, strB_add, if_neg hb, nx hi (by omega), ih (i + 1) (out ++ [l[i]]) (by omega) (by simp; omega)]
      simp
theorem rquote_ev (l : List UInt8) (hl : l.length ≤ 1000) : D 20 [.sc (.string (B l))] = some (.sc (.string (B (quoL l)))) := by
  rw [f20_eq 0]
  have := rquote_l l hl l.length 0 [34] (by omega) (by simp)
  rw [List.drop_zero] at this
  exact this
end Go.Den.EX
/- Tokens of a text: the plain part. -/
set_option linter.unusedVariables false
set_option linter.unusedSimpArgs false
namespace Go.Den
open Go Go.Proofs
structure Tk where
  kind : Nat
  loc : Nat
  text : List UInt8
  num : Int
def plainB (b : UInt8) : Bool := decide (32 ≤ b.toNat) && b.toNat != 127
def uppB (b : UInt8) : Bool := (decide (65 ≤ b.toNat) && decide (b.toNat ≤ 90)) || b.toNat == 36
def wrdB (b : UInt8) : Bool := uppB b || isD b
/-- The text within marks (behind the first one), and how many bytes it takes. -/
def strL : List UInt8 → Option (List UInt8 × Nat)
  | [] => none
  | [b] => if plainB b = false then none else if b = 34 then some ([], 1) else none
  | b :: c :: l => if plainB b = false then none else if b = 34 then (if c = 34 then (strL l).map (fun r => (34 :: r.1, r.2 + 2)) else some ([], 1)) else (strL (c :: l)).map (fun r => (b :: r.1, r.2 + 1))
def runW : List UInt8 → Nat
  | [] => 0
  | b :: l => if wrdB b = true then runW l + 1 else 0
def sigs : List (List UInt8) := [[35, 82, 69, 70], [60, 62], [60, 61], [62, 61], [43], [45], [42], [47], [94], [38], [61], [60], [62], [40], [41], [44], [58]]
def signL (s : List UInt8) : Option (List UInt8) := sigs.find? (fun t => t.isPrefixOf s)
/-- The token with which a text begins, and how many bytes it takes. -/
def nextL : List UInt8 → Option (Tk × Nat)
  | [] => none
  | b :: l =>
    if isD b = true then (if (leadL (b :: l)).2.2 = true then some (⟨1, 0, [], (leadL (b :: l)).1⟩, leadn (b :: l)) else none)
    else if b = 34 then (strL l).map (fun r => (⟨2, 0, r.1, 0⟩, r.2 + 1))
    else if uppB b = true then some (⟨3, 0, b :: l.take (runW l), 0⟩, runW l + 1)
    else (signL (b :: l)).map (fun t => (⟨4, 0, t, 0⟩, t.length))
def Tk.put (t : Tk) (a : Nat) : Tk := ⟨t.kind, a, t.text, t.num⟩
/-- All tokens from a place on; or the place that is wrong. -/
def lexL (a : Nat) (s : List UInt8) : Nat ⊕ List Tk :=
  match s with
  | [] => .inr [⟨5, a, [], 0⟩]
  | b :: l => if b = 32 then lexL (a + 1) l else match nextL (b :: l) with
    | none => .inl a
    | some (t, n) => match lexL (a + n) (l.drop (n - 1)) with
      | .inl e => .inl e
      | .inr r => .inr (t.put a :: r)
termination_by s.length
decreasing_by all_goals (simp; try omega)
theorem runD_pos {m : Nat} {b : UInt8} {l : List UInt8} (h : isD b = true) : 0 < runD (m + 1) (b :: l) := by
  rw [runD, if_pos h]; omega
theorem leadn_pos {b : UInt8} {l : List UInt8} (h : isD b = true) : 0 < leadn (b :: l) := by
  have := runD_pos (m := 29) (l := l) h
  unfold leadn
  dsimp only
  split
  · omega
  · exact this
theorem strL_le : ∀ (l : List UInt8) (r : List UInt8 × Nat), strL l = some r → r.2 ≤ l.length
  | [], r, h => by rw [strL] at h; cases h
  | [b], r, h => by
    rw [strL] at h
    split at h
    · cases h
    · split at h
      · cases h; simp
      · cases h
  | b :: c :: l, r, h => by
    rw [strL] at h
    split at h
    · cases h
    · split at h
      · split at h
        · obtain ⟨r', h1, rfl⟩ := Option.map_eq_some_iff.1 h
          have := strL_le l r' h1
          simp; omega
        · cases h; simp
      · obtain ⟨r', h1, rfl⟩ := Option.map_eq_some_iff.1 h
        have := strL_le (c :: l) r' h1
        simp at this ⊢; omega
theorem runW_le : ∀ l : List UInt8, runW l ≤ l.length
  | [] => Nat.le_refl _
  | b :: l => by have := runW_le l; rw [runW]; split <;> simp <;> omega
theorem sign_pre {s t : List UInt8} (h : signL s = some t) : t.isPrefixOf s = true ∧ t ∈ sigs := by
  unfold signL at h
  exact ⟨by simpa using List.find?_some h, List.mem_of_find?_eq_some h⟩
theorem sigs_len {t : List UInt8} (h : t ∈ sigs) : 0 < t.length ∧ t.length ≤ 4 := by
  have : ∀ t ∈ sigs, 0 < t.length ∧ t.length ≤ 4 := by decide
  exact this t h
theorem sign_len {s t : List UInt8} (h : signL s = some t) : t.length ≤ s.length := by
  have := (sign_pre h).1
  exact (List.isPrefixOf_iff_prefix.1 this).length_le
theorem next_le {s : List UInt8} {t : Tk} {n : Nat} (h : nextL s = some (t, n)) : 0 < n ∧ n ≤ s.length := by
  rcases s with _ | ⟨b, l⟩
  · cases h
  rw [nextL] at h
  split at h
  · rename_i hd
    split at h
    · cases h
      exact ⟨leadn_pos hd, leadn_le _⟩
    · cases h
  · split at h
    · obtain ⟨r, h1, h2⟩ := Option.map_eq_some_iff.1 h
      cases h2
      have := strL_le l r h1
      simp; omega
    · split at h
      · cases h
        have := runW_le l
        simp; omega
      · obtain ⟨r, h1, h2⟩ := Option.map_eq_some_iff.1 h
        cases h2
        exact ⟨(sigs_len (sign_pre h1).2).1, sign_len h1⟩
theorem lexL_nil (a : Nat) : lexL a [] = .inr [⟨5, a, [], 0⟩] := by rw [lexL]
theorem lexL_blank (a : Nat) (l : List UInt8) : lexL a (32 :: l) = lexL (a + 1) l := by rw [lexL, if_pos rfl]
theorem lexL_bad {a : Nat} {b : UInt8} {l : List UInt8} (hb : b ≠ 32) (h : nextL (b :: l) = none) : lexL a (b :: l) = .inl a := by
  rw [lexL, if_neg hb, h]
theorem lexL_tok {a : Nat} {b : UInt8} {l : List UInt8} (hb : b ≠ 32) {t : Tk} {n : Nat} (h : nextL (b :: l) = some (t, n)) : lexL a (b :: l) = (match lexL (a + n) ((b :: l).drop n) with | .inl e => .inl e | .inr r => .inr (t.put a :: r)) := by
  rw [lexL, if_neg hb, h]
  have := next_le h
  obtain ⟨m, rfl⟩ : ∃ m, n = m + 1 := ⟨n - 1, by omega⟩
  rfl
end Go.Den
/- Tokens: what stands behind a blank changes nothing; tokens told are read again; blanks put ahead of one. -/
set_option linter.unusedVariables false
set_option linter.unusedSimpArgs false
namespace Go.Den
open Go Go.Proofs
def sep (q : List UInt8) : Prop := q = [] ∨ ∃ r, q = 32 :: r
theorem sep_nil : sep [] := Or.inl rfl
theorem sep_cons (r : List UInt8) : sep (32 :: r) := Or.inr ⟨r, rfl⟩
theorem runD_sep {q : List UInt8} (hq : sep q) (q0 : List UInt8) : ∀ (m : Nat) (p : List UInt8), runD m (p ++ q0) ≤ p.length → runD m (p ++ q) = runD m (p ++ q0)
  | 0, p, _ => by simp [runD]
  | m + 1, [], h => by
    have h0 : runD (m + 1) ([] ++ q0) = 0 := Nat.le_zero.1 h
    rw [h0]
    rcases hq with rfl | ⟨r, rfl⟩
    · rfl
    · rw [List.nil_append, runD, if_neg (by decide)]
  | m + 1, c :: p, h => by
    rw [List.cons_append, runD] at h ⊢
    rw [List.cons_append, runD]
    by_cases hc : isD c = true
    · rw [if_pos hc] at h ⊢
      rw [if_pos hc, runD_sep hq q0 m p (by simp at h; omega)]
    · rw [if_neg hc, if_neg hc]
theorem drop_app {p q : List UInt8} {n : Nat} (h : n ≤ p.length) : (p ++ q).drop n = p.drop n ++ q := by rw [List.drop_append_of_le_length h]
theorem take_app {p q : List UInt8} {n : Nat} (h : n ≤ p.length) : (p ++ q).take n = p.take n := by rw [List.take_append_of_le_length h]
theorem isDp_app {p q : List UInt8} {n : Nat} (h : n < p.length) : isDp (p ++ q) n = isD p[n] := by
  unfold isDp
  rw [drop_app (by omega), List.drop_eq_getElem_cons h]; rfl
theorem head_app {p q : List UInt8} {n : Nat} (h : n < p.length) : ((p ++ q).drop n).head? = some p[n] := by
  rw [drop_app (by omega), List.drop_eq_getElem_cons h]; rfl
theorem sep_head {q : List UInt8} (hq : sep q) {p : List UInt8} {b : UInt8} (hb : b ≠ 32) : ((p ++ q).drop p.length).head? ≠ some b := by
  rw [List.drop_left]
  rcases hq with rfl | ⟨r, rfl⟩
  · simp
  · intro h; exact hb (Option.some.inj h).symm
theorem sep_dig {q : List UInt8} (hq : sep q) {p : List UInt8} : isDp (p ++ q) p.length = false := by
  unfold isDp
  rw [List.drop_left]
  rcases hq with rfl | ⟨r, rfl⟩
  · rfl
  · rfl
theorem isDp_pos {l : List UInt8} {i : Nat} (h : isDp l i = true) (m : Nat) : 0 < runD (m + 1) (l.drop i) := by
  rw [runD_step, if_pos h]; omega
theorem leadn_sep {q : List UInt8} (hq : sep q) (q0 p : List UInt8) (h : leadn (p ++ q0) ≤ p.length) : leadn (p ++ q) = leadn (p ++ q0) := by
  unfold leadn at h ⊢
  dsimp only at h ⊢
  by_cases hc : 0 < runD 30 (p ++ q0) ∧ ((p ++ q0).drop (runD 30 (p ++ q0))).head? = some 46 ∧ isDp (p ++ q0) (runD 30 (p ++ q0) + 1) = true
  · rw [if_pos hc] at h ⊢
    have e := runD_sep hq q0 30 p (by omega)
    rw [e]
    obtain ⟨h1, h2, h3⟩ := hc
    have hp : 0 < runD 4 ((p ++ q0).drop (runD 30 (p ++ q0) + 1)) := isDp_pos h3 3
    generalize runD 30 (p ++ q0) = n at *
    have hn : n + 1 < p.length := by omega
    rw [head_app (show n < p.length by omega)] at h2
    rw [isDp_app hn] at h3
    rw [if_pos ⟨h1, by rw [head_app (show n < p.length by omega)]; exact h2, by rw [isDp_app hn]; exact h3⟩]
    rw [drop_app (show n + 1 ≤ p.length by omega)] at h ⊢
    rw [drop_app (show n + 1 ≤ p.length by omega), runD_sep hq q0 4 (p.drop (n + 1)) (by rw [List.length_drop]; omega)]
  · rw [if_neg hc] at h ⊢
    have e := runD_sep hq q0 30 p h
    rw [e]
    generalize runD 30 (p ++ q0) = n at *
    refine if_neg (fun hh => hc ⟨hh.1, ?_⟩)
    obtain ⟨h1, h2, h3⟩ := hh
    have hn : n < p.length := by
      rcases Nat.lt_or_ge n p.length with hn | hn
      · exact hn
      · obtain rfl : n = p.length := by omega
        exact absurd h2 (sep_head hq (by decide))
    have hn2 : n + 1 < p.length := by
      rcases Nat.lt_or_ge (n + 1) p.length with hn | hn
      · exact hn
      · have e : n + 1 = p.length := by omega
        rw [e, sep_dig hq] at h3
        cases h3
    rw [head_app hn] at h2
    rw [isDp_app hn2] at h3
    exact ⟨by rw [head_app hn]; exact h2, by rw [isDp_app hn2]; exact h3⟩
theorem strL_pos : ∀ (l : List UInt8) (r : List UInt8 × Nat), strL l = some r → 0 < r.2
  | [], r, h => by rw [strL] at h; cases h
  | [b], r, h => by
    rw [strL] at h
    split at h
    · cases h
    · split at h
      · cases h; simp
      · cases h
  | b :: c :: l, r, h => by
    rw [strL] at h
    split at h
    · cases h
    · split at h
      · split at h
        · obtain ⟨r', h1, rfl⟩ := Option.map_eq_some_iff.1 h
          simp
        · cases h; simp
      · obtain ⟨r', h1, rfl⟩ := Option.map_eq_some_iff.1 h
        simp
theorem strL_sep {q : List UInt8} (hq : sep q) (q0 : List UInt8) : ∀ (p : List UInt8) (r : List UInt8 × Nat), strL (p ++ q0) = some r → r.2 ≤ p.length → strL (p ++ q) = some r
  | [], r, h, hl => by have := strL_pos _ _ h; simp at hl; omega
  | [b], r, h, hl => by
    have key : plainB b = true ∧ b = 34 ∧ r = ([], 1) := by
      rcases q0 with _ | ⟨c, l⟩
      · rw [List.append_nil, strL] at h
        by_cases h1 : plainB b = false
        · rw [if_pos h1] at h; cases h
        · rw [if_neg h1] at h
          by_cases h2 : b = 34
          · rw [if_pos h2] at h; cases h
            exact ⟨by simpa using h1, h2, rfl⟩
          · rw [if_neg h2] at h; cases h
      · rw [List.cons_append, List.nil_append, strL] at h
        by_cases h1 : plainB b = false
        · rw [if_pos h1] at h; cases h
        · rw [if_neg h1] at h
          by_cases h2 : b = 34
          · rw [if_pos h2] at h
            by_cases h3 : c = 34
            · rw [if_pos h3] at h
              obtain ⟨r', h4, rfl⟩ := Option.map_eq_some_iff.1 h
              simp at hl
            · rw [if_neg h3] at h; cases h
              exact ⟨by simpa using h1, h2, rfl⟩
          · rw [if_neg h2] at h
            obtain ⟨r', h4, rfl⟩ := Option.map_eq_some_iff.1 h
            have := strL_pos _ _ h4
            simp at hl; omega
    obtain ⟨h1, rfl, rfl⟩ := key
    rcases hq with rfl | ⟨r, rfl⟩
    · rfl
    · rw [List.cons_append, List.nil_append, strL, h1]; rfl
  | b :: c :: p, r, h, hl => by
    rw [List.cons_append, List.cons_append, strL] at h ⊢
    by_cases h1 : plainB b = false
    · rw [if_pos h1] at h; cases h
    · rw [if_neg h1] at h ⊢
      by_cases h2 : b = 34
      · rw [if_pos h2] at h ⊢
        by_cases h3 : c = 34
        · rw [if_pos h3] at h ⊢
          obtain ⟨r', h4, rfl⟩ := Option.map_eq_some_iff.1 h
          rw [strL_sep hq q0 p r' h4 (by simp at hl; omega)]
          rfl
        · rw [if_neg h3] at h ⊢
          exact h
      · rw [if_neg h2] at h ⊢
        obtain ⟨r', h4, rfl⟩ := Option.map_eq_some_iff.1 h
        have := strL_sep hq q0 (c :: p) r' h4 (by simp at hl ⊢; omega)
        rw [List.cons_append] at this
        rw [this]
        rfl
theorem runW_sep {q : List UInt8} (hq : sep q) (q0 : List UInt8) : ∀ p : List UInt8, runW (p ++ q0) ≤ p.length → runW (p ++ q) = runW (p ++ q0)
  | [], h => by
    have h0 : runW ([] ++ q0) = 0 := Nat.le_zero.1 h
    rw [h0]
    rcases hq with rfl | ⟨r, rfl⟩
    · rfl
    · rw [List.nil_append, runW, if_neg (by decide)]
  | c :: p, h => by
    rw [List.cons_append, runW] at h ⊢
    rw [List.cons_append, runW]
    by_cases hc : wrdB c = true
    · rw [if_pos hc] at h ⊢
      rw [if_pos hc, runW_sep hq q0 p (by simp at h; omega)]
    · rw [if_neg hc, if_neg hc]
theorem find_congr {A C : List UInt8 → Bool} {t : List UInt8} : ∀ L : List (List UInt8), (∀ x ∈ L, A x = true → C x = true) → L.find? C = some t → A t = true → L.find? A = some t
  | [], _, h, _ => by cases h
  | x :: L, hs, h, ha => by
    rw [List.find?_cons] at h ⊢
    cases hc : C x
    · rw [hc] at h
      have : A x = false := by
        cases hx : A x
        · rfl
        · rw [hs x List.mem_cons_self hx] at hc; cases hc
      rw [this]
      exact find_congr L (fun y hy => hs y (List.mem_cons_of_mem _ hy)) h ha
    · rw [hc] at h
      cases h
      rw [ha]
theorem pre_sep {q : List UInt8} (hq : sep q) : ∀ (t p : List UInt8), (32 : UInt8) ∉ t → t.isPrefixOf (p ++ q) = true → t.isPrefixOf p = true
  | [], p, _, _ => by simp
  | b :: t, [], h0, h => by
    rcases hq with rfl | ⟨r, rfl⟩
    · simp [List.isPrefixOf] at h
    · simp [List.isPrefixOf] at h
      exact absurd h.1 (fun e => h0 (by rw [e]; exact List.mem_cons_self))
  | b :: t, c :: p, h0, h => by
    simp only [List.cons_append, List.isPrefixOf, Bool.and_eq_true] at h ⊢
    exact ⟨h.1, pre_sep hq t p (fun hh => h0 (List.mem_cons_of_mem _ hh)) h.2⟩
theorem pre_app {t p q : List UInt8} (h : t.isPrefixOf p = true) : t.isPrefixOf (p ++ q) = true := by
  rw [List.isPrefixOf_iff_prefix] at h ⊢
  exact h.trans (List.prefix_append p q)
theorem sigs_blank {t : List UInt8} (h : t ∈ sigs) : (32 : UInt8) ∉ t := by
  have : ∀ t ∈ sigs, (32 : UInt8) ∉ t := by decide
  exact this t h
theorem pre_short {t p q : List UInt8} (h : t.isPrefixOf (p ++ q) = true) (hl : t.length ≤ p.length) : t.isPrefixOf p = true := by
  rw [List.isPrefixOf_iff_prefix] at h ⊢
  exact List.prefix_of_prefix_length_le h (List.prefix_append p q) hl
theorem sign_sep {q : List UInt8} (hq : sep q) (q0 p t : List UInt8) (h : signL (p ++ q0) = some t) (hl : t.length ≤ p.length) : signL (p ++ q) = some t := by
  refine find_congr sigs (fun x hx ha => pre_app (pre_sep hq x p (sigs_blank hx) ha)) h ?_
  exact pre_app (pre_short (sign_pre h).1 hl)
theorem next_sep {q : List UInt8} (hq : sep q) (q0 p : List UInt8) {t : Tk} {n : Nat} (h : nextL (p ++ q0) = some (t, n)) (hl : n ≤ p.length) : nextL (p ++ q) = some (t, n) := by
  have hn := (next_le h).1
  rcases p with _ | ⟨b, p⟩
  · simp at hl; omega
  rw [List.cons_append, nextL] at h ⊢
  by_cases h1 : isD b = true
  · rw [if_pos h1] at h ⊢
    by_cases h2 : (leadL (b :: (p ++ q0))).2.2 = true
    · rw [if_pos h2] at h
      have e : leadn (b :: (p ++ q0)) = n := by injection h with h; injection h
      have e2 : leadn ((b :: p) ++ q) = leadn ((b :: p) ++ q0) := leadn_sep hq q0 (b :: p) (by rw [List.cons_append, e]; exact hl)
      rw [List.cons_append, List.cons_append, e] at e2
      have e3 : leadL (b :: (p ++ q)) = leadL (b :: (p ++ q0)) := by
        unfold leadL
        rw [e2, e, ← List.cons_append, ← List.cons_append, take_app hl, take_app hl]
      rw [e3, if_pos h2, e2, ← e]
      rw [e] at h ⊢
      exact h
    · rw [if_neg h2] at h; cases h
  · rw [if_neg h1] at h ⊢
    by_cases h2 : b = 34
    · rw [if_pos h2] at h ⊢
      obtain ⟨r, h3, h4⟩ := Option.map_eq_some_iff.1 h
      cases h4
      rw [strL_sep hq q0 p r h3 (by simp at hl; omega)]
      rfl
    · rw [if_neg h2] at h ⊢
      by_cases h3 : uppB b = true
      · rw [if_pos h3] at h ⊢
        have e : runW (p ++ q0) + 1 = n := by injection h with h; injection h
        simp at hl
        have e2 := runW_sep hq q0 p (by omega)
        rw [e2, take_app (by omega)]
        rw [take_app (by omega)] at h
        exact h
      · rw [if_neg h3] at h ⊢
        obtain ⟨r, h4, h5⟩ := Option.map_eq_some_iff.1 h
        cases h5
        have := sign_sep hq q0 (b :: p) r h4 hl
        rw [List.cons_append] at this
        rw [this]
        rfl
/-- The tokens moved. -/
def shiftT (m : Nat) : Nat ⊕ List Tk → Nat ⊕ List Tk
  | .inl e => .inl (e + m)
  | .inr l => .inr (l.map fun t => t.put (t.loc + m))
theorem lex_shift (m : Nat) (s : List UInt8) : ∀ (N a : Nat) (s : List UInt8), s.length ≤ N → lexL (a + m) s = shiftT m (lexL a s) := by
  intro N
  induction N with
  | zero =>
    intro a s h
    obtain rfl : s = [] := List.eq_nil_of_length_eq_zero (by omega)
    rw [lexL_nil, lexL_nil]; rfl
  | succ N ih =>
    intro a s h
    rcases s with _ | ⟨b, l⟩
    · rw [lexL_nil, lexL_nil]; rfl
    · simp at h
      by_cases hb : b = 32
      · subst hb
        rw [lexL_blank, lexL_blank, show a + m + 1 = a + 1 + m by omega]
        exact ih (a + 1) l h
      · cases hn : nextL (b :: l) with
        | none => rw [lexL_bad hb hn, lexL_bad hb hn]; rfl
        | some x =>
          obtain ⟨t, n⟩ := x
          have hle := next_le hn
          rw [lexL_tok hb hn, lexL_tok hb hn, show a + m + n = a + n + m by omega, ih (a + n) ((b :: l).drop n) (by simp; omega)]
          cases lexL (a + n) ((b :: l).drop n) with
          | inl e => rfl
          | inr r => rfl
theorem lex_loc (N : Nat) : ∀ (a : Nat) (s : List UInt8) (l : List Tk), s.length ≤ N → lexL a s = .inr l → ∀ t ∈ l, a ≤ t.loc ∧ t.loc ≤ a + s.length := by
  induction N with
  | zero =>
    intro a s l h e t ht
    obtain rfl : s = [] := List.eq_nil_of_length_eq_zero (by omega)
    rw [lexL_nil] at e
    cases e
    simp at ht
    subst ht; simp
  | succ N ih =>
    intro a s l h e t ht
    rcases s with _ | ⟨b, s⟩
    · rw [lexL_nil] at e
      cases e
      simp at ht
      subst ht; simp
    · simp at h
      by_cases hb : b = 32
      · subst hb
        rw [lexL_blank] at e
        have := ih (a + 1) s l h e t ht
        simp; omega
      · cases hn : nextL (b :: s) with
        | none => rw [lexL_bad hb hn] at e; cases e
        | some x =>
          obtain ⟨t', n⟩ := x
          have hle := next_le hn
          rw [lexL_tok hb hn] at e
          cases hr : lexL (a + n) ((b :: s).drop n) with
          | inl z => rw [hr] at e; cases e
          | inr r =>
            rw [hr] at e
            cases e
            rcases List.mem_cons.1 ht with rfl | ht
            · exact ⟨Nat.le_refl _, Nat.le_add_right _ _⟩
            · have := ih (a + n) ((b :: s).drop n) r (by simp; omega) hr t ht
              rw [List.length_drop] at this
              simp at this hle ⊢; omega
theorem lex_count (N : Nat) : ∀ (a : Nat) (s : List UInt8) (l : List Tk), s.length ≤ N → lexL a s = .inr l → l.length ≤ s.length + 1 := by
  induction N with
  | zero =>
    intro a s l h e
    obtain rfl : s = [] := List.eq_nil_of_length_eq_zero (by omega)
    rw [lexL_nil] at e
    cases e; simp
  | succ N ih =>
    intro a s l h e
    rcases s with _ | ⟨b, s⟩
    · rw [lexL_nil] at e
      cases e; simp
    · simp at h
      by_cases hb : b = 32
      · subst hb
        rw [lexL_blank] at e
        have := ih (a + 1) s l h e
        simp; omega
      · cases hn : nextL (b :: s) with
        | none => rw [lexL_bad hb hn] at e; cases e
        | some x =>
          obtain ⟨t', n⟩ := x
          have hle := next_le hn
          rw [lexL_tok hb hn] at e
          cases hr : lexL (a + n) ((b :: s).drop n) with
          | inl z => rw [hr] at e; cases e
          | inr r =>
            rw [hr] at e
            cases e
            have := ih (a + n) ((b :: s).drop n) r (by simp; omega) hr
            rw [List.length_drop] at this
            simp at this hle ⊢; omega
theorem lex_blanks (m : Nat) (s : List UInt8) : ∀ a, lexL a (List.replicate m 32 ++ s) = lexL (a + m) s := by
  induction m with
  | zero => intro a; rfl
  | succ m ih =>
    intro a
    rw [List.replicate_succ, List.cons_append, lexL_blank, ih, show a + 1 + m = a + (m + 1) by omega]
/-- The tokens from the k-th one on moved. -/
def movedT (m : Nat) : Nat → List Tk → List Tk
  | 0, l => l.map fun t => t.put (t.loc + m)
  | k + 1, [] => []
  | k + 1, t :: l => t :: movedT m k l
theorem movedT_map (m : Nat) : ∀ (k : Nat) (l : List Tk), (movedT m k l).map (fun t => t.put 0) = l.map (fun t => t.put 0)
  | 0, l => by
    unfold movedT
    rw [List.map_map]; rfl
  | k + 1, [] => rfl
  | k + 1, t :: l => by
    show t.put 0 :: (movedT m k l).map (fun t => t.put 0) = _
    rw [movedT_map m k l]; rfl
theorem movedT_len (m k : Nat) (l : List Tk) : (movedT m k l).length = l.length := by
  have := congrArg List.length (movedT_map m k l)
  simpa using this
theorem movedT_get (m : Nat) : ∀ (k : Nat) (l : List Tk) (i : Nat) (h : i < l.length) (h' : i < (movedT m k l).length), (movedT m k l)[i].loc = if k ≤ i then l[i].loc + m else l[i].loc
  | 0, l, i, h, h' => by
    rw [if_pos (Nat.zero_le _)]
    simp only [movedT, List.getElem_map]; rfl
  | k + 1, [], i, h, h' => by simp at h
  | k + 1, t :: l, 0, h, h' => by rw [if_neg (by omega)]; rfl
  | k + 1, t :: l, i + 1, h, h' => by
    have h1 : i < l.length := by simpa using h
    have h2 : i < (movedT m k l).length := by rw [movedT_len]; exact h1
    have e : (movedT m (k + 1) (t :: l))[i + 1] = (movedT m k l)[i] := rfl
    have e2 : (t :: l)[i + 1] = l[i] := rfl
    rw [e, e2, movedT_get m k l i h1 h2]
    by_cases hk : k ≤ i
    · rw [if_pos hk, if_pos (by omega)]
    · rw [if_neg hk, if_neg (by omega)]
theorem movedT_0 : ∀ (k : Nat) (l : List Tk), movedT 0 k l = l
  | 0, l => by
    unfold movedT
    conv => rhs; rw [← List.map_id l]
    rfl
  | k + 1, [] => rfl
  | k + 1, t :: l => by
    show t :: movedT 0 k l = _
    rw [movedT_0 k l]
theorem put_self (t : Tk) : t.put t.loc = t := rfl
theorem lex_ins (m : Nat) (hm : 0 < m) (q : List UInt8) (N : Nat) : ∀ (a : Nat) (p : List UInt8) (l : List Tk) (k : Nat) (hk : k < l.length), p.length + q.length ≤ N → lexL a (p ++ q) = .inr l → l[k].loc = a + p.length →
    lexL a (p ++ (List.replicate m 32 ++ q)) = .inr (movedT m k l) := by
  have base : ∀ (a : Nat) (l : List Tk), lexL a q = .inr l → lexL a (List.replicate m 32 ++ q) = .inr (movedT m 0 l) := by
    intro a l h
    rw [lex_blanks, lex_shift m q q.length a q (Nat.le_refl _), h]; rfl
  induction N with
  | zero =>
    intro a p l k hk h e hl
    obtain rfl : p = [] := List.eq_nil_of_length_eq_zero (by omega)
    obtain rfl : q = [] := List.eq_nil_of_length_eq_zero (by omega)
    have e2 := e
    rw [List.nil_append, lexL_nil] at e2
    cases e2
    obtain rfl : k = 0 := by simp at hk; omega
    exact base a _ e
  | succ N ih =>
    intro a p l k hk h e hl
    rcases p with _ | ⟨b, p⟩
    · rw [List.nil_append] at e ⊢
      rcases k with _ | k
      · exact base a l e
      · exfalso
        rcases q with _ | ⟨b, q⟩
        · rw [lexL_nil] at e
          cases e
          simp at hk
        · by_cases hb : b = 32
          · subst hb
            rw [lexL_blank] at e
            have := lex_loc _ _ _ _ (Nat.le_refl _) e l[k + 1] (List.getElem_mem hk)
            simp at hl this; omega
          · cases hn : nextL (b :: q) with
            | none => rw [lexL_bad hb hn] at e; cases e
            | some x =>
              obtain ⟨t', n⟩ := x
              have hle := next_le hn
              rw [lexL_tok hb hn] at e
              cases hr : lexL (a + n) ((b :: q).drop n) with
              | inl z => rw [hr] at e; cases e
              | inr r =>
                rw [hr] at e
                cases e
                have hk3 : k < r.length := by simpa using hk
                have := lex_loc _ _ _ _ (Nat.le_refl _) hr r[k] (List.getElem_mem hk3)
                simp at hl this; omega
    · by_cases hb : b = 32
      · subst hb
        rw [List.cons_append, lexL_blank] at e ⊢
        exact ih (a + 1) p l k hk (by simp at h; omega) e (by simp at hl; omega)
      · cases hn : nextL (b :: (p ++ q)) with
        | none => rw [List.cons_append, lexL_bad hb hn] at e; cases e
        | some x =>
          obtain ⟨t', n⟩ := x
          have hle := next_le hn
          rw [List.cons_append, lexL_tok hb hn] at e
          cases hr : lexL (a + n) ((b :: (p ++ q)).drop n) with
          | inl z => rw [hr] at e; cases e
          | inr r =>
            rw [hr] at e
            cases e
            rcases k with _ | k
            · simp [Tk.put] at hl
            · have hk2 : k < r.length := by simpa using hk
              have hl2 : r[k].loc = a + (p.length + 1) := by simpa using hl
              have hloc := lex_loc _ _ _ _ (Nat.le_refl _) hr r[k] (List.getElem_mem hk2)
              have hnp : n ≤ (b :: p).length := by simp; omega
              have hs : sep (List.replicate m 32 ++ q) := by
                obtain ⟨m', rfl⟩ : ∃ m', m = m' + 1 := ⟨m - 1, by omega⟩
                rw [List.replicate_succ, List.cons_append]
                exact sep_cons _
              have h2 := next_sep hs q (b :: p) (by rw [List.cons_append]; exact hn) hnp
              rw [List.cons_append] at h2 ⊢
              rw [lexL_tok hb h2, ← List.cons_append, drop_app hnp]
              rw [← List.cons_append, drop_app hnp] at hr
              have := ih (a + n) ((b :: p).drop n) r k hk2 (by simp at h ⊢; omega) hr (by rw [List.length_drop]; simp at hnp ⊢; omega)
              rw [this]
              rfl
end Go.Den
/- Tokens told as text are the same tokens. -/
set_option linter.unusedVariables false
set_option linter.unusedSimpArgs false
namespace Go.Den
open Go Go.Proofs
def telT (t : Tk) : List UInt8 := if t.kind = 1 then texS t.num else if t.kind = 2 then quoL t.text else t.text
def goodT (t : Tk) : Prop := (1 ≤ t.kind ∧ t.kind ≤ 4) ∧ (∃ b l, telT t = b :: l ∧ b ≠ 32) ∧ ∀ q, sep q → nextL (telT t ++ q) = some (t.put 0, (telT t).length)
theorem isD_rng {b : UInt8} (h : isD b = true) : 48 ≤ b.toNat ∧ b.toNat ≤ 57 := by unfold isD at h; simpa using h
theorem runD_all {m : Nat} {w q : List UInt8} (hw : w.all isD = true) (hm : w.length ≤ m) (hq : m = w.length ∨ isDp q 0 = false) : runD m (w ++ q) = w.length := by
  induction w generalizing m with
  | nil =>
    rcases m with _ | m
    · rfl
    · rcases hq with h | h
      · simp at h
      · have := runD_step m q 0
        rw [List.drop_zero, if_neg (by rw [h]; decide)] at this
        exact this
  | cons b w ih =>
    rw [List.all_cons, Bool.and_eq_true] at hw
    obtain ⟨m, rfl⟩ : ∃ m', m = m' + 1 := ⟨m - 1, by simp at hm; omega⟩
    rw [List.cons_append, runD, if_pos hw.1, ih hw.2 (by simp at hm; omega) (by
      rcases hq with h | h
      · left; simp at h; omega
      · exact Or.inr h)]
    simp; omega
theorem sep_d0 {q : List UInt8} (hq : sep q) : isDp q 0 = false := by
  have := sep_dig hq (p := [])
  exact this
theorem leadn_str {w f q : List UInt8} (hw : w.all isD = true) (hw0 : w ≠ []) (hwl : w.length < 30) (hf : f.all isD = true) (hfl : f.length ≤ 4) (hq : sep q) : leadn (strD w f ++ q) = (strD w f).length := by
  have hp : 0 < w.length := List.length_pos_iff.2 hw0
  unfold leadn strD
  dsimp only
  by_cases h0 : f = []
  · rw [if_pos h0, List.append_nil, runD_all hw (by omega) (Or.inr (sep_d0 hq))]
    exact if_neg (fun hh => absurd hh.2.1 (sep_head hq (by decide)))
  · rw [if_neg h0, List.append_assoc, List.cons_append, runD_all hw (by omega) (Or.inr rfl)]
    have e1 : (w ++ 46 :: (f ++ q)).drop (w.length + 1) = f ++ q := by
      rw [← List.drop_drop, List.drop_left]; rfl
    have hd : isDp (w ++ 46 :: (f ++ q)) (w.length + 1) = true := by
      unfold isDp
      rw [e1]
      rcases f with _ | ⟨c, f⟩
      · exact absurd rfl h0
      · rw [List.all_cons, Bool.and_eq_true] at hf
        exact hf.1
    rw [if_pos ⟨hp, by rw [List.drop_left]; rfl, hd⟩, e1, runD_all hf hfl (Or.inr (sep_d0 hq))]
    simp; omega
theorem good_num {x : Int} (hx : May x) (h0 : 0 ≤ x) : goodT ⟨1, 0, [], x⟩ := by
  have e : telT ⟨1, 0, [], x⟩ = strD (Lib.decDigits (x.natAbs / 10000)) (fracL 4 (x.natAbs % 10000)) := by
    unfold telT texS
    rw [if_pos rfl, if_pos hx, tex_str, if_neg (show ¬ x < 0 by omega), List.nil_append]
  have hw := dd_all (x.natAbs / 10000)
  have hw0 := dd_ne (x.natAbs / 10000)
  have hl := dd_len16 hx hx.i
  obtain ⟨b, l, hb⟩ : ∃ b l, Lib.decDigits (x.natAbs / 10000) = b :: l := by
    cases hh : Lib.decDigits (x.natAbs / 10000) with
    | nil => exact absurd hh hw0
    | cons b l => exact ⟨b, l, rfl⟩
  have hbd : isD b = true := by rw [hb, List.all_cons, Bool.and_eq_true] at hw; exact hw.1
  have hr := isD_rng hbd
  have e2 : strD (Lib.decDigits (x.natAbs / 10000)) (fracL 4 (x.natAbs % 10000)) = b :: (l ++ if fracL 4 (x.natAbs % 10000) = [] then [] else 46 :: fracL 4 (x.natAbs % 10000)) := by
    unfold strD
    rw [hb, List.cons_append]
  refine ⟨⟨by simp, by simp⟩, ⟨b, _, e.trans e2, fun h => by rw [h] at hr; exact absurd hr.1 (by decide)⟩, fun q hq => ?_⟩
  have hln := leadn_str hw hw0 (by omega) (frac_all 4 (x.natAbs % 10000) (by omega)) (frac_len 4 (x.natAbs % 10000)) hq
  have hrd : readL (strD (Lib.decDigits (x.natAbs / 10000)) (fracL 4 (x.natAbs % 10000))) = (x, true) := by
    have := read_tex hx hx.i
    rw [tex_str, if_neg (by omega), List.nil_append] at this
    exact this
  have hld : leadL (strD (Lib.decDigits (x.natAbs / 10000)) (fracL 4 (x.natAbs % 10000)) ++ q) = (x, ((strD (Lib.decDigits (x.natAbs / 10000)) (fracL 4 (x.natAbs % 10000))).length : Int), true) := by
    unfold leadL
    rw [hln, List.take_left, hrd]
    exact if_pos rfl
  rw [e]
  generalize hs : strD (Lib.decDigits (x.natAbs / 10000)) (fracL 4 (x.natAbs % 10000)) = s at *
  rw [e2] at hld hln ⊢
  rw [List.cons_append] at hld hln ⊢
  rw [nextL, if_pos hbd, hld, if_pos rfl, hln]
  rfl
theorem str_dbl : ∀ (l q : List UInt8), l.all plainB = true → sep q → strL (dblL l ++ (34 :: q)) = some (l, (dblL l).length + 1)
  | [], q, _, hq => by
    rw [dblL, List.nil_append]
    rcases hq with rfl | ⟨r, rfl⟩
    · rfl
    · rw [strL, if_neg (by decide), if_pos rfl, if_neg (by decide)]; rfl
  | b :: l, q, h, hq => by
    rw [List.all_cons, Bool.and_eq_true] at h
    have ih := str_dbl l q h.2 hq
    by_cases hb : b = 34
    · subst hb
      rw [dblL, if_pos rfl, List.cons_append, List.cons_append, strL, if_neg (by decide), if_pos rfl, if_pos rfl, ih]
      simp
    · rw [dblL, if_neg hb, List.cons_append]
      obtain ⟨c, m, hc⟩ : ∃ c m, dblL l ++ (34 :: q) = c :: m := by
        cases hh : dblL l ++ (34 :: q) with
        | nil => simp at hh
        | cons c m => exact ⟨c, m, rfl⟩
      rw [hc, strL, if_neg (by rw [h.1]; decide), if_neg hb, ← hc, ih]
      simp
theorem strL_plain : ∀ (l : List UInt8) (r : List UInt8 × Nat), strL l = some r → r.1.all plainB = true
  | [], r, h => by rw [strL] at h; cases h
  | [b], r, h => by
    rw [strL] at h
    split at h
    · cases h
    · split at h
      · cases h; rfl
      · cases h
  | b :: c :: l, r, h => by
    rw [strL] at h
    split at h
    · cases h
    · rename_i hb
      split at h
      · split at h
        · obtain ⟨r', h1, rfl⟩ := Option.map_eq_some_iff.1 h
          have := strL_plain l r' h1
          rw [List.all_cons, this]; rfl
        · cases h; rfl
      · obtain ⟨r', h1, rfl⟩ := Option.map_eq_some_iff.1 h
        have := strL_plain (c :: l) r' h1
        rw [List.all_cons, this, show plainB b = true by simpa using hb]; rfl
theorem good_str {l : List UInt8} (h : l.all plainB = true) : goodT ⟨2, 0, l, 0⟩ := by
  refine ⟨⟨by simp, by simp⟩, ⟨34, _, rfl, by decide⟩, fun q hq => ?_⟩
  show nextL (quoL l ++ q) = some (⟨2, 0, l, 0⟩, (quoL l).length)
  unfold quoL
  rw [List.cons_append, nextL, if_neg (by decide), if_pos rfl, List.append_assoc, List.singleton_append, str_dbl l q h hq]
  simp
theorem good_next {b : UInt8} {l : List UInt8} (hb : b ≠ 32) {t : Tk} {n : Nat} (h : nextL (b :: l) = some (t, n)) : goodT t := by
  have h' := h
  have hle := next_le h
  rw [nextL] at h
  by_cases h1 : isD b = true
  · rw [if_pos h1] at h
    by_cases h2 : (leadL (b :: l)).2.2 = true
    · rw [if_pos h2] at h
      have e : t = ⟨1, 0, [], (leadL (b :: l)).1⟩ := by injection h with h; injection h with h; exact h.symm
      subst e
      have hln := leadn_le (b :: l)
      have hlp := leadn_pos (l := l) h1
      unfold leadL at h2 ⊢
      by_cases h3 : (readL ((b :: l).take (leadn (b :: l)))).2 = true
      · rw [if_pos h3] at h2 ⊢
        refine good_num (read_ok.2 h3) ?_
        dsimp only
        unfold readL at h3 ⊢
        by_cases h4 : ((b :: l).take (leadn (b :: l))).length ≤ 40 ∧ rightL (cutL (bodyL ((b :: l).take (leadn (b :: l)))))
        · rw [if_pos h4]
          have hm : minusL ((b :: l).take (leadn (b :: l))) = false := by
            obtain ⟨m, hm⟩ : ∃ m, leadn (b :: l) = m + 1 := ⟨leadn (b :: l) - 1, by omega⟩
            rw [hm, List.take_succ_cons]
            rw [(minus_eq b _).1]
            have := isD_rng h1
            rw [beq_eq_false_iff_ne]
            omega
          rw [hm, if_neg (by decide)]
          exact Int.natCast_nonneg _
        · rw [if_neg h4] at h3; cases h3
      · rw [if_neg h3] at h2; cases h2
    · rw [if_neg h2] at h; cases h
  · rw [if_neg h1] at h
    by_cases h2 : b = 34
    · rw [if_pos h2] at h
      obtain ⟨r, h3, h4⟩ := Option.map_eq_some_iff.1 h
      cases h4
      exact good_str (strL_plain l r h3)
    · rw [if_neg h2] at h
      by_cases h3 : uppB b = true
      · rw [if_pos h3] at h
        cases h
        refine ⟨⟨by simp, by simp⟩, ⟨b, _, rfl, hb⟩, fun q hq => ?_⟩
        have e : b :: l = (b :: l.take (runW l)) ++ l.drop (runW l) := by rw [List.cons_append, List.take_append_drop]
        rw [e] at h'
        have hl := runW_le l
        have hlen : (b :: l.take (runW l)).length = runW l + 1 := by simp; omega
        have := next_sep hq _ _ h' (by rw [hlen]; exact Nat.le_refl _)
        show nextL ((b :: l.take (runW l)) ++ q) = some (_, (b :: l.take (runW l)).length)
        rw [this, hlen]
        rfl
      · rw [if_neg h3] at h
        obtain ⟨r, h4, h5⟩ := Option.map_eq_some_iff.1 h
        cases h5
        have hp := sign_pre h4
        have hlr := sigs_len hp.2
        obtain ⟨z, hz⟩ := List.isPrefixOf_iff_prefix.1 hp.1
        rw [← hz] at h'
        have := fun q hq => next_sep (q := q) hq _ _ h' (Nat.le_refl _)
        rcases r with _ | ⟨c, r⟩
        · simp at hlr
        · rw [List.cons_append] at hz
          injection hz with hz1 hz2
          subst hz1
          exact ⟨⟨by simp, by simp⟩, ⟨c, r, rfl, hb⟩, this⟩
/-- Tokens, one behind the other, with blanks between. -/
def jnT : List Tk → List UInt8
  | [] => []
  | [t] => telT t
  | t :: u :: l => telT t ++ 32 :: jnT (u :: l)
def sameT (a b : Tk) : Prop := a.kind = b.kind ∧ a.text = b.text ∧ a.num = b.num
theorem lex_form (N : Nat) : ∀ (a : Nat) (s : List UInt8) (l : List Tk), s.length ≤ N → lexL a s = .inr l → ∃ ts, l = ts ++ [⟨5, a + s.length, [], 0⟩] ∧ ∀ t ∈ ts, goodT (t.put 0) := by
  induction N with
  | zero =>
    intro a s l h e
    obtain rfl : s = [] := List.eq_nil_of_length_eq_zero (by omega)
    rw [lexL_nil] at e
    cases e
    exact ⟨[], rfl, fun t ht => by cases ht⟩
  | succ N ih =>
    intro a s l h e
    rcases s with _ | ⟨b, s⟩
    · rw [lexL_nil] at e
      cases e
      exact ⟨[], rfl, fun t ht => by cases ht⟩
    · simp at h
      by_cases hb : b = 32
      · subst hb
        rw [lexL_blank] at e
        obtain ⟨ts, h1, h2⟩ := ih (a + 1) s l h e
        exact ⟨ts, by rw [h1, List.length_cons, show a + 1 + s.length = a + (s.length + 1) by omega], h2⟩
      · cases hn : nextL (b :: s) with
        | none => rw [lexL_bad hb hn] at e; cases e
        | some x =>
          obtain ⟨t', n⟩ := x
          have hle := next_le hn
          rw [lexL_tok hb hn] at e
          cases hr : lexL (a + n) ((b :: s).drop n) with
          | inl z => rw [hr] at e; cases e
          | inr r =>
            rw [hr] at e
            cases e
            obtain ⟨ts, h1, h2⟩ := ih (a + n) ((b :: s).drop n) r (by simp; omega) hr
            refine ⟨t'.put a :: ts, ?_, ?_⟩
            · rw [h1, List.length_drop, show a + n + ((b :: s).length - n) = a + (b :: s).length by omega]; rfl
            · intro t ht
              rcases List.mem_cons.1 ht with rfl | ht
              · have g := good_next hb hn
                obtain ⟨g1, g2, g3⟩ := g
                exact ⟨g1, g2, g3⟩
              · exact h2 t ht
theorem good_put {t : Tk} (h : goodT (t.put 0)) : goodT t := h
/-- Tokens told are read again. -/
theorem lex_back : ∀ (ts : List Tk) (a : Nat), (∀ t ∈ ts, goodT t) → ∃ us, lexL a (jnT ts) = .inr (us ++ [⟨5, a + (jnT ts).length, [], 0⟩]) ∧ us.map (fun t => t.put 0) = ts.map (fun t => t.put 0)
  | [], a, _ => ⟨[], by rw [jnT, lexL_nil]; rfl, rfl⟩
  | [t], a, h => by
    obtain ⟨_, ⟨b, l, e, hb⟩, h3⟩ := h t List.mem_cons_self
    have h3 := h3 [] sep_nil
    refine ⟨[t.put a], ?_, rfl⟩
    rw [jnT, e]
    rw [List.append_nil, e] at h3
    rw [lexL_tok hb h3, List.drop_length, lexL_nil]
    rfl
  | t :: u :: l, a, h => by
    obtain ⟨_, ⟨b, m, e, hb⟩, h3⟩ := h t List.mem_cons_self
    have h3 := h3 (32 :: jnT (u :: l)) (sep_cons _)
    obtain ⟨us, e1, e2⟩ := lex_back (u :: l) (a + (telT t).length + 1) (fun x hx => h x (List.mem_cons_of_mem _ hx))
    refine ⟨t.put a :: us, ?_, by rw [List.map_cons, e2]; rfl⟩
    have hd : (telT t ++ 32 :: jnT (u :: l)).drop (telT t).length = 32 :: jnT (u :: l) := List.drop_left
    rw [jnT]
    have hlen : (telT t ++ 32 :: jnT (u :: l)).length = (telT t).length + 1 + (jnT (u :: l)).length := by simp; omega
    rw [hlen]
    generalize hw : telT t = w at *
    subst e
    rw [List.cons_append] at h3 hd ⊢
    rw [lexL_tok hb h3, hd, lexL_blank, e1]
    have e9 : a + (b :: m).length + 1 + (jnT (u :: l)).length = a + ((b :: m).length + 1 + (jnT (u :: l)).length) := by omega
    rw [e9]
    rfl
end Go.Den
/- The program's tokens. -/
set_option linter.unusedVariables false
set_option linter.unusedSimpArgs false
set_option maxRecDepth 100000
namespace Go.Den.EX
open Go Go.Proofs
abbrev EM : ByteArray := ⟨#[]⟩
def tkp (t : Tk) : PV := .agg [.sc (.int .i64 (t.kind : Int)), .sc (.int .i64 (t.loc : Int)), .sc (.string (B t.text)), .sc (.int .i64 t.num)]
theorem tkp_sh (t : Tk) : hasSh (.agg [(.int .i64), (.int .i64), .str, (.int .i64)]) (tkp t) = true := rfl
theorem tkp_0 (t : Tk) : (cel 0 (tkp t).cells).toInt = (t.kind : Int) := rfl
theorem tkp_1 (t : Tk) : (cel 1 (tkp t).cells).toInt = (t.loc : Int) := rfl
theorem tkp_2 (t : Tk) : (cel 2 (tkp t).cells).toStr = B t.text := rfl
theorem tkp_3 (t : Tk) : (cel 3 (tkp t).cells).toInt = t.num := rfl
def tp (l : List Tk) : List PV := l.map tkp
theorem tp_len (l : List Tk) : (tp l).length = l.length := by simp [tp]
theorem tp_get {l : List Tk} {i : Nat} (h : i < l.length) : (tp l).getD i .top = tkp l[i] := by simp [tp, h]
theorem tp_sh {l : List Tk} {i : Nat} (h : i < l.length) : hasSh (.agg [(.int .i64), (.int .i64), .str, (.int .i64)]) ((tp l).getD i .top) = true := by rw [tp_get h]; rfl
theorem tp_app (l : List Tk) (t : Tk) : tp l ++ [tkp t] = tp (l ++ [t]) := by simp [tp]
theorem byte_all {p : UInt8 → Bool} (h : (List.range 256).all (fun n => p (UInt8.ofNat n)) = true) (b : UInt8) : p b = true := by
  have := List.all_eq_true.1 h b.toNat (List.mem_range.2 b.toNat_lt)
  simpa using this
theorem plain_ev (b : UInt8) : D 98 [.sc (.int .u8 (b.toNat : Int))] = some (.sc (.bool (plainB b))) := by
  rw [f98_eq 0]
  have e1 : decide ((b.toNat : Int) ≥ 32) = decide (32 ≤ b.toNat) := decide_eq_decide.2 (by omega)
  have e2 : ((b.toNat : Int) != 127) = (b.toNat != 127) := by
    rw [Bool.eq_iff_iff, bne_iff_ne, bne_iff_ne]; omega
  rw [e1, e2, bA]
  rfl
theorem inWord_ev (b : UInt8) (g : Bool) : D 130 [.sc (.int .u8 (b.toNat : Int)), .sc (.bool g)] = some (.sc (.bool (if g = true then uppB b else wrdB b))) := by
  rw [f130_eq 0]
  have e1 : decide ((b.toNat : Int) ≥ 65) = decide (65 ≤ b.toNat) := decide_eq_decide.2 (by omega)
  have e2 : decide ((b.toNat : Int) ≤ 90) = decide (b.toNat ≤ 90) := decide_eq_decide.2 (by omega)
  have e3 : ((b.toNat : Int) == 36) = (b.toNat == 36) := by
    rw [Bool.eq_iff_iff, beq_iff_eq, beq_iff_eq]; omega
  have e4 : decide ((b.toNat : Int) ≥ 48) = decide (48 ≤ b.toNat) := decide_eq_decide.2 (by omega)
  have e5 : decide ((b.toNat : Int) ≤ 57) = decide (b.toNat ≤ 57) := decide_eq_decide.2 (by omega)
  rw [e1, e2, e3, e4, e5]
  simp only [bs, tb, bA, bO]
  unfold wrdB uppB isD
  cases g <;> simp
theorem strL_eq (b : UInt8) (t : List UInt8) : strL (b :: t) = if plainB b = false then none else if b = 34 then (if t.head? = some 34 then (strL t.tail).map (fun r => (34 :: r.1, r.2 + 2)) else some ([], 1)) else (strL t).map (fun r => (b :: r.1, r.2 + 1)) := by
  rcases t with _ | ⟨c, l⟩
  · conv => lhs; rw [strL]
    by_cases h1 : plainB b = false
    · rw [if_pos h1, if_pos h1]
    · rw [if_neg h1, if_neg h1]
      by_cases h2 : b = 34
      · rw [if_pos h2, if_pos h2]; rfl
      · rw [if_neg h2, if_neg h2]; rfl
  · conv => lhs; rw [strL]
    by_cases h1 : plainB b = false
    · rw [if_pos h1, if_pos h1]
    · rw [if_neg h1, if_neg h1]
      by_cases h2 : b = 34
      · rw [if_pos h2, if_pos h2]
        by_cases h3 : c = 34
        · rw [if_pos h3, if_pos (show (c :: l).head? = some 34 by rw [h3]; rfl)]; rfl
        · rw [if_neg h3, if_neg (show ¬ (c :: l).head? = some 34 from fun h => h3 (Option.some.inj h))]
      · rw [if_neg h2, if_neg h2]
def strR (acc : List UInt8) (i : Nat) : Option (List UInt8 × Nat) → PV
  | none => .tup [.sc (.string EM), .sc (.int .i64 0)]
  | some r => .tup [.sc (.string (B (acc ++ r.1))), .sc (.int .i64 ((i + r.2 : Nat) : Int))]
theorem strR_some (acc : List UInt8) (i : Nat) (r : List UInt8 × Nat) : strR acc i (some r) = .tup [.sc (.string (B (acc ++ r.1))), .sc (.int .i64 ((i + r.2 : Nat) : Int))] := rfl
theorem str_a (s : ByteArray) (i : Int) : f129.l0a 0 s i = f129.l0b 0 s i [] := by
  rw [f129.l0a_eq, f129.l0b_eq]
theorem str_b (s : List UInt8) (hl : s.length ≤ 100000) : ∀ (d i : Nat) (acc : List UInt8), i ≤ s.length → s.length - i ≤ d → acc.length ≤ i → f129.l0b 0 (B s) (i : Int) (strB (B acc)) = some (strR acc i (strL (s.drop i))) := by
  intro d
  induction d with
  | zero =>
    intro i acc hi hd ha
    rw [f129.l0b_eq, List.drop_eq_nil_of_le (by omega)]
    exact im (by rw [decide_eq_true_eq, B_size]; omega) rfl
  | succ d ih =>
    intro i acc hi hd ha
    by_cases he : i < s.length
    · rw [f129.l0b_eq, List.drop_eq_getElem_cons he, strL_eq]
      have c1 : (0 : Int) ≤ (i : Int) := by omega
      have c2 : (i : Int) < ((B s).size : Int) := by rw [B_size]; omega
      rw [if_pos (show decide ((i : Int) < ((B s).size : Int)) = true from decide_eq_true c2), B_bt he]
      refine ip c1 (ip c2 (cb (plain_ev _) rfl ?_))
      by_cases h1 : plainB s[i] = false
      · rw [if_pos h1]
        exact ip (show (!plainB s[i]) = true by rw [h1]; rfl) rfl
      · rw [if_neg h1]
        refine im (show ¬ (!plainB s[i]) = true by simpa using h1) (ip c1 (ip c2 ?_))
        have h34 : ((s[i].toNat : Int) != 34) = decide (s[i] ≠ 34) := by
          rw [Bool.eq_iff_iff, bne_iff_ne, decide_eq_true_eq]
          constructor
          · intro h e; rw [e] at h; exact h rfl
          · intro h e; exact h (UInt8.toNat_inj.1 (by show s[i].toNat = 34; omega))
        rw [h34]
        by_cases h2 : s[i] = 34
        · rw [if_pos h2]
          refine im (by simp [h2]) ?_
          have en : IntKind.i64.wrap ((i : Int) + 1) = ((i + 1 : Nat) : Int) := nx he (by omega)
          rw [en]
          by_cases h3 : i + 1 < s.length
          · have c3 : decide (((i + 1 : Nat) : Int) < ((B s).size : Int)) = true := by rw [decide_eq_true_eq, B_size]; omega
            have c4 : (0 : Int) ≤ ((i + 1 : Nat) : Int) := by omega
            have c5 : ((i + 1 : Nat) : Int) < ((B s).size : Int) := by rw [B_size]; omega
            rw [c3, bt34 h3]
            simp only [bs, tb, if_true, if_pos c4, if_pos c5]
            have eh : (s.drop (i + 1)).head? = some s[i + 1] := by rw [List.drop_eq_getElem_cons h3]; rfl
            have et : (s.drop (i + 1)).tail = s.drop (i + 2) := by rw [List.drop_eq_getElem_cons h3]; rfl
            rw [eh, et]
            by_cases h4 : s[i + 1] = 34
            · rw [if_pos (by rw [h4])]
              refine ip (decide_eq_true h4) (hb (bwb_ev acc 34 (by omega)) rfl rfl ?_)
              have e2 : IntKind.i64.wrap (((i + 1 : Nat) : Int) + 1) = ((i + 2 : Nat) : Int) := nx h3 (by omega)
              rw [e2]
              refine (ih (i + 2) (acc ++ [34]) (by omega) (by omega) (by simp; omega)).trans ?_
              cases strL (s.drop (i + 2)) with
              | none => rfl
              | some r =>
                show some (strR (acc ++ [34]) (i + 2) (some r)) = some (strR acc i (some (34 :: r.1, r.2 + 2)))
                rw [strR_some, strR_some]
                rw [List.append_assoc, show i + 2 + r.2 = i + (r.2 + 2) by omega]; rfl
            · rw [if_neg (fun h => h4 (Option.some.inj h))]
              refine im (by simpa using h4) (hb (bstr_ev acc) rfl rfl ?_)
              rw [strR_some, List.append_nil]; rfl
          · have c3 : decide (((i + 1 : Nat) : Int) < ((B s).size : Int)) = false := by rw [decide_eq_false_iff_not, B_size]; omega
            rw [c3]
            simp only [bs, tb, Bool.false_eq_true, if_false]
            rw [List.drop_eq_nil_of_le (by omega), if_neg (by simp)]
            refine hb (bstr_ev acc) rfl rfl ?_
            rw [strR_some, List.append_nil]; rfl
        · rw [if_neg h2]
          refine ip (decide_eq_true h2) (ip c1 (ip c2 (hb (bwb_ev acc s[i] (by omega)) rfl rfl ?_)))
          rw [nx he (by omega)]
          refine (ih (i + 1) (acc ++ [s[i]]) (by omega) (by omega) (by simp; omega)).trans ?_
          cases strL (s.drop (i + 1)) with
          | none => rfl
          | some r =>
            show some (strR (acc ++ [s[i]]) (i + 1) (some r)) = some (strR acc i (some (s[i] :: r.1, r.2 + 1)))
            rw [strR_some, strR_some]
            rw [List.append_assoc, show i + 1 + r.2 = i + (r.2 + 1) by omega]; rfl
    · rw [f129.l0b_eq, List.drop_eq_nil_of_le (by omega)]
      exact im (by rw [decide_eq_true_eq, B_size]; omega) rfl
theorem str_ev (b : UInt8) (l : List UInt8) (hl : l.length ≤ 10000) : D 129 [.sc (.string (B (b :: l)))] = some (strR [] 1 (strL l)) := by
  rw [f129_eq 0, str_a]
  have := str_b (b :: l) (by simp; omega) (b :: l).length 1 [] (by simp) (by omega) (by simp)
  exact this
def sgs : List PV := sigs.map fun t => .sc (.string (B t))
theorem sgs_get {i : Nat} (h : i < sigs.length) : sgs.getD i .top = .sc (.string (B sigs[i])) := by unfold sgs; simp [h]
theorem pre_ev (s t : List UInt8) : D 131 [.sc (.string (B s)), .sc (.string (B t))] = some (.sc (.bool (t.isPrefixOf s))) := by
  have e : D 131 [.sc (.string (B s)), .sc (.string (B t))] = xHasPrefix [.sc (.string (B s)), .sc (.string (B t))] := (denI_eq 0 _ _).trans (by kernel_rfl)
  rw [e]; rfl
def sgnR : Option (List UInt8) → PV
  | none => .tup [tkp ⟨0, 0, [], 0⟩, .sc (.int .i64 0)]
  | some t => .tup [tkp ⟨4, 0, t, 0⟩, .sc (.int .i64 (t.length : Int))]
theorem sgn_l (s : List UInt8) : ∀ (d i : Nat), i + d = sigs.length → f91.l1a 0 (B s) 17 (fun i => sgs.getD i .top) 17 (i : Int) 0 0 EM 0 = some (sgnR ((sigs.drop i).find? (fun t => t.isPrefixOf s))) := by
  have hs : sigs.length = 17 := rfl
  intro d
  induction d with
  | zero =>
    intro i h
    rw [f91.l1a_eq, List.drop_eq_nil_of_le (by omega)]
    exact im (by rw [decide_eq_true_eq]; omega) rfl
  | succ d ih =>
    intro i h
    have hi : i < sigs.length := by omega
    rw [f91.l1a_eq, List.drop_eq_getElem_cons hi, List.find?_cons]
    rw [Int.toNat_natCast, sgs_get hi]
    refine ip (by rw [decide_eq_true_eq]; omega) (ip (by omega) (ip (by omega) (ip rfl (cb (pre_ev s sigs[i]) rfl ?_))))
    cases hp : sigs[i].isPrefixOf s
    · refine im (by decide) ?_
      rw [nx (i := i) (n := 17) (by omega) (by decide)]
      exact ih (i + 1) (by omega)
    · exact ip rfl rfl
theorem signs_ev : D 120 [.sc (.string (⟨#[35, 82, 69, 70, 32, 60, 62, 32, 60, 61, 32, 62, 61, 32, 43, 32, 45, 32, 42, 32, 47, 32, 94, 32, 38, 32, 61, 32, 60, 32, 62, 32, 40, 32, 41, 32, 44, 32, 58]⟩ : ByteArray))] = some (frozen 1 sgs) := denI_of (k := 2) (by kernel_rfl)
theorem word_l (s : List UInt8) (hl : s.length ≤ 100000) : ∀ (d i : Nat), i + d = s.length → 0 < i → f91.l0a 0 (B s) (i : Int) 0 0 EM 0 = some (.tup [tkp ⟨3, 0, s.take (i + runW (s.drop i)), 0⟩, .sc (.int .i64 ((i + runW (s.drop i) : Nat) : Int))]) := by
  have fin : ∀ (i : Nat), i ≤ s.length → 0 < i → ∀ c : Bool, c = false → (if c = true then f91.l0a 0 (B s) (IntKind.i64.wrap ((i : Int) + 1)) 0 0 EM 0 else
      if decide ((i : Int) > 0) = true then if 0 ≤ (i : Int) then if (i : Int) ≤ ((B s).size : Int) then if 0 ≤ (i : Int) then some (.tup [.agg [.sc (.int .i64 3), .sc (.int .i64 0), .sc (.string ((B s).extract 0 (i : Int).toNat)), .sc (.int .i64 0)], .sc (.int .i64 (i : Int))]) else none else none else none else
      (D 120 [.sc (.string (⟨#[35, 82, 69, 70, 32, 60, 62, 32, 60, 61, 32, 62, 61, 32, 43, 32, 45, 32, 42, 32, 47, 32, 94, 32, 38, 32, 61, 32, 60, 32, 62, 32, 40, 32, 41, 32, 44, 32, 58]⟩ : ByteArray))]).bind fun r12 => if hasSh (.lst 1) r12 = true then f91.l1a 0 (B s) r12.len r12.at (r12.len : Int) 0 0 0 EM 0 else none) = some (.tup [tkp ⟨3, 0, s.take i, 0⟩, .sc (.int .i64 (i : Int))]) := by
    intro i hi h0 c hc
    subst hc
    refine im (by decide) (ip (by rw [decide_eq_true_eq]; omega) (ip (by omega) (ip (by rw [B_size]; omega) (ip (by omega) ?_))))
    rw [take_ext]
    rfl
  intro d
  induction d with
  | zero =>
    intro i h h0
    rw [f91.l0a_eq]
    have c : decide ((i : Int) < ((B s).size : Int)) = false := by rw [decide_eq_false_iff_not, B_size]; omega
    rw [c, List.drop_eq_nil_of_le (by omega)]
    exact fin i (by omega) h0 false rfl
  | succ d ih =>
    intro i h h0
    have hi : i < s.length := by omega
    rw [f91.l0a_eq]
    have c1 : (0 : Int) ≤ (i : Int) := by omega
    have c2 : (i : Int) < ((B s).size : Int) := by rw [B_size]; omega
    have c : decide ((i : Int) < ((B s).size : Int)) = true := decide_eq_true c2
    have z : ((i : Int) == 0) = false := by rw [beq_eq_false_iff_ne]; omega
    rw [c, B_bt hi, z, List.drop_eq_getElem_cons hi, runW]
    simp only [inWord_ev, bs, shb, tb, if_true, if_pos c1, if_pos c2, Bool.false_eq_true, if_false]
    by_cases hw : wrdB s[i] = true
    · rw [if_pos hw]
      refine ip hw ?_
      rw [nx hi (by omega), show i + (runW (s.drop (i + 1)) + 1) = i + 1 + runW (s.drop (i + 1)) by omega]
      exact ih (i + 1) (by omega) (by omega)
    · have hw' : wrdB s[i] = false := by simpa using hw
      rw [if_neg hw]
      exact fin i (by omega) h0 _ hw'
/-- What next answers. -/
def nxR (t : Tk) (n : Nat) : PV := .tup [tkp t, .sc (.int .i64 (n : Int))]
theorem next_ev (b : UInt8) (l : List UInt8) (hl : l.length ≤ 10000) : ∃ t n, D 91 [.sc (.string (B (b :: l)))] = some (nxR t n) ∧ ((nextL (b :: l) = some (t, n) ∧ 0 < n) ∨ (nextL (b :: l) = none ∧ n = 0)) := by
  have hlen : (b :: l).length = l.length + 1 := rfl
  have c0 : (0 : Int) < ((B (b :: l)).size : Int) := by rw [B_size]; omega
  have hb0 : bt (B (b :: l)) 0 = (b.toNat : Int) := B_bt (l := b :: l) (i := 0) (by simp)
  have e1 : decide ((b.toNat : Int) ≥ 48) = decide (48 ≤ b.toNat) := decide_eq_decide.2 (by omega)
  have e2 : decide ((b.toNat : Int) ≤ 57) = decide (b.toNat ≤ 57) := decide_eq_decide.2 (by omega)
  rw [f91_eq 0, nextL, hb0, e1, e2]
  simp only [if_pos c0, bs, tb, bA]
  have ed : (decide (48 ≤ b.toNat) && decide (b.toNat ≤ 57)) = isD b := rfl
  rw [ed]
  by_cases hd : isD b = true
  · rw [if_pos hd]
    have hld := lead_ev (l := b :: l) (by omega)
    have hp := leadn_pos (l := l) hd
    by_cases h : (leadL (b :: l)).2.2 = true
    · refine ⟨⟨1, 0, [], (leadL (b :: l)).1⟩, leadn (b :: l), ?_, Or.inl ⟨by rw [if_pos h], hp⟩⟩
      refine ip hd (cb hld rfl ?_)
      have e3 : (leadL (b :: l)).2.1 = (leadn (b :: l) : Int) := by
        unfold leadL at h ⊢
        split at h
        · rename_i hh; rw [if_pos hh]
        · cases h
      show some (PV.tup [.agg [.sc (.int .i64 1), .sc (.int .i64 0), .sc (.string EM), .sc (.int .i64 (leadL (b :: l)).1)], .sc (.int .i64 (leadL (b :: l)).2.1)]) = _
      rw [e3]
      rfl
    · refine ⟨⟨1, 0, [], 0⟩, 0, ?_, Or.inr ⟨by rw [if_neg h], rfl⟩⟩
      refine ip hd (cb hld rfl ?_)
      have e3 : leadL (b :: l) = (0, 0, false) := by
        unfold leadL at h ⊢
        split at h
        · exact absurd rfl h
        · rename_i hh; rw [if_neg hh]
      rw [e3]
      rfl
  · rw [if_neg hd]
    by_cases h2 : b = 34
    · rw [if_pos h2]
      have hs := str_ev b l hl
      refine ⟨⟨2, 0, ((strL l).getD ([], 0)).1, 0⟩, (match strL l with | none => 0 | some r => r.2 + 1), ?_, ?_⟩
      · refine im hd (ip (by rw [h2]; rfl) (cb hs ?_ ?_))
        · cases strL l <;> rfl
        · cases strL l with
          | none => rfl
          | some r =>
            rw [strR_some, show 1 + r.2 = r.2 + 1 by omega]; rfl
      · cases strL l with
        | none => exact Or.inr ⟨rfl, rfl⟩
        | some r => exact Or.inl ⟨rfl, Nat.succ_pos _⟩
    · rw [if_neg h2]
      have hne : ¬ ((b.toNat : Int) == 34) = true := by
        rw [beq_iff_eq]; intro e
        exact h2 (UInt8.toNat_inj.1 (by show b.toNat = 34; omega))
      by_cases h3 : uppB b = true
      · rw [if_pos h3]
        refine ⟨_, _, ?_, Or.inl ⟨rfl, Nat.succ_pos _⟩⟩
        refine im hd (im hne ?_)
        rw [f91.l0a_eq, hb0]
        have c : decide ((0 : Int) < ((B (b :: l)).size : Int)) = true := decide_eq_true c0
        have c1 : (0 : Int) ≤ 0 := Int.le_refl _
        have z : ((0 : Int) == 0) = true := rfl
        rw [c, z]
        simp only [inWord_ev, bs, shb, tb, if_true, if_pos c1, if_pos c0]
        refine ip h3 ?_
        have := word_l (b :: l) (by omega) l.length 1 (by omega) (by decide)
        rw [show IntKind.i64.wrap ((0 : Int) + 1) = ((1 : Nat) : Int) from rfl, this]
        unfold nxR
        rw [show 1 + runW ((b :: l).drop 1) = runW l + 1 by rw [Nat.add_comm]; rfl, List.take_succ_cons]
      · rw [if_neg h3]
        have hsg := sgn_l (b :: l) 17 0 rfl
        rw [List.drop_zero] at hsg
        refine ⟨(match signL (b :: l) with | none => ⟨0, 0, [], 0⟩ | some t => ⟨4, 0, t, 0⟩), (match signL (b :: l) with | none => 0 | some t => t.length), ?_, ?_⟩
        · refine im hd (im hne ?_)
          rw [f91.l0a_eq, hb0]
          have c : decide ((0 : Int) < ((B (b :: l)).size : Int)) = true := decide_eq_true c0
          have c1 : (0 : Int) ≤ 0 := Int.le_refl _
          have z : ((0 : Int) == 0) = true := rfl
          rw [c, z]
          simp only [inWord_ev, bs, shb, tb, if_true, if_pos c1, if_pos c0]
          refine im h3 (im (by decide) (cb signs_ev rfl ?_))
          refine Eq.trans hsg ?_
          show some (sgnR (signL (b :: l))) = _
          cases signL (b :: l) <;> rfl
        · cases hsl : signL (b :: l) with
          | none => exact Or.inr ⟨rfl, rfl⟩
          | some t => exact Or.inl ⟨rfl, (sigs_len (sign_pre hsl).2).1⟩
def errR (a e : Int) : PV := .tup [.lst 4 0 (fun _ => .top), .sc (.int .i64 a), .sc (.int .i64 e)]
def okR (l : List Tk) : PV := .tup [frozen 4 (tp l), .sc (.int .i64 0), .sc (.int .i64 0)]
def lexR (ts : List Tk) : Nat ⊕ List Tk → PV
  | .inl e => errR e 1
  | .inr l => okR (ts ++ l)
theorem bt_32 {l : List UInt8} {i : Nat} (h : i < l.length) : (bt (B l) (i : Int) == 32) = decide (l[i] = 32) := by
  rw [B_bt h, Bool.eq_iff_iff, beq_iff_eq, decide_eq_true_eq]
  constructor
  · intro e; exact UInt8.toNat_inj.1 (by show l[i].toNat = 32; omega)
  · intro e; rw [e]; rfl
theorem ext_drop (s : List UInt8) (i : Nat) : (B s).extract (i : Int).toNat ((B s).size : Int).toNat = B (s.drop i) := by
  rw [Int.toNat_natCast, Int.toNat_natCast, B_extract, B_size]
  congr 1
  apply List.take_of_length_le
  rw [List.length_drop]; omega
theorem lex_b (s : List UInt8) (hl : s.length ≤ 1000) : ∀ (d a : Nat) (ts : List Tk), a ≤ s.length → s.length - a ≤ d → ts.length ≤ a → f48.l0b 0 (B s) (a : Int) (tp ts) = some (lexR ts (lexL a (s.drop a))) := by
  have stop : ∀ (a : Nat) (ts : List Tk), a = s.length → ts.length ≤ a → f48.l0b 0 (B s) (a : Int) (tp ts) = some (lexR ts (lexL a (s.drop a))) := by
    intro a ts ha ht
    rw [f48.l0b_eq, List.drop_eq_nil_of_le (by omega), lexL_nil]
    refine im (by rw [decide_eq_true_eq, B_size]; omega) (ip (by rw [tp_len]; simp; omega) ?_)
    show _ = some (okR (ts ++ [⟨5, a, [], 0⟩]))
    unfold okR
    rw [← tp_app]
    rw [B_size, ← ha]; rfl
  intro d
  induction d with
  | zero => intro a ts ha hd ht; exact stop a ts (by omega) ht
  | succ d ih =>
    intro a ts ha hd ht
    by_cases hi : a < s.length
    · rw [f48.l0b_eq]
      have c1 : (0 : Int) ≤ (a : Int) := by omega
      have c2 : (a : Int) < ((B s).size : Int) := by rw [B_size]; omega
      refine ip (decide_eq_true c2) (ip c1 (ip c2 ?_))
      by_cases hb : s[a] = 32
      · refine ip (by rw [bt_32 hi]; exact decide_eq_true hb) ?_
        rw [nx hi (by omega), List.drop_eq_getElem_cons hi, hb, lexL_blank]
        exact ih (a + 1) ts (by omega) (by omega) (by omega)
      · refine im (by rw [bt_32 hi]; simpa using hb) (ip (by omega) (ip (Int.le_refl _) (ip c1 (ip (by omega) ?_))))
        rw [ext_drop]
        have ed := List.drop_eq_getElem_cons hi
        obtain ⟨t, n, e1, e2⟩ := next_ev s[a] (s.drop (a + 1)) (by rw [List.length_drop]; omega)
        rw [← ed] at e1 e2
        refine cb e1 rfl ?_
        rcases e2 with ⟨e2, hn⟩ | ⟨e2, hn⟩
        · refine im (show ¬ ((n : Int) == 0) = true by rw [beq_iff_eq]; omega) (ip (by rw [tp_len]; simp; omega) ?_)
          have hle := (next_le e2).2
          rw [List.length_drop] at hle
          rw [ed] at e2
          rw [ed, lexL_tok hb e2, ← ed, List.drop_drop]
          have ew : IntKind.i64.wrap ((a : Int) + (n : Int)) = ((a + n : Nat) : Int) := by rw [w64 (by omega) (by omega)]; omega
          have := ih (a + n) (ts ++ [t.put a]) (by omega) (by omega) (by simp; omega)
          rw [← tp_app] at this
          show f48.l0b 0 (B s) (IntKind.i64.wrap ((a : Int) + (n : Int))) (tp ts ++ [tkp (t.put a)]) = _
          rw [ew, this]
          cases lexL (a + n) (s.drop (a + n)) with
          | inl e => rfl
          | inr r =>
            show some (okR (ts ++ [t.put a] ++ r)) = some (okR (ts ++ (t.put a :: r)))
            rw [List.append_assoc]; rfl
        · subst hn
          refine ip rfl ?_
          rw [ed] at e2
          rw [ed, lexL_bad hb e2]
          rfl
    · exact stop a ts (by omega) ht
theorem lex_a (s : List UInt8) (hl : s.length ≤ 1000) : ∀ (d a : Nat), a ≤ s.length → s.length - a ≤ d → f48.l0a 0 (B s) (a : Int) = some (lexR [] (lexL a (s.drop a))) := by
  have stop : ∀ (a : Nat), a = s.length → f48.l0a 0 (B s) (a : Int) = some (lexR [] (lexL a (s.drop a))) := by
    intro a ha
    rw [f48.l0a_eq, List.drop_eq_nil_of_le (by omega), lexL_nil]
    refine im (by rw [decide_eq_true_eq, B_size]; omega) (ip (by simp) ?_)
    rw [B_size, ← ha]; rfl
  intro d
  induction d with
  | zero => intro a ha hd; exact stop a (by omega)
  | succ d ih =>
    intro a ha hd
    by_cases hi : a < s.length
    · rw [f48.l0a_eq]
      have c1 : (0 : Int) ≤ (a : Int) := by omega
      have c2 : (a : Int) < ((B s).size : Int) := by rw [B_size]; omega
      refine ip (decide_eq_true c2) (ip c1 (ip c2 ?_))
      by_cases hb : s[a] = 32
      · refine ip (by rw [bt_32 hi]; exact decide_eq_true hb) ?_
        rw [nx hi (by omega), List.drop_eq_getElem_cons hi, hb, lexL_blank]
        exact ih (a + 1) (by omega) (by omega)
      · refine im (by rw [bt_32 hi]; simpa using hb) (ip (by omega) (ip (Int.le_refl _) (ip c1 (ip (by omega) ?_))))
        rw [ext_drop]
        have ed := List.drop_eq_getElem_cons hi
        obtain ⟨t, n, e1, e2⟩ := next_ev s[a] (s.drop (a + 1)) (by rw [List.length_drop]; omega)
        rw [← ed] at e1 e2
        refine cb e1 rfl ?_
        rcases e2 with ⟨e2, hn⟩ | ⟨e2, hn⟩
        · refine im (show ¬ ((n : Int) == 0) = true by rw [beq_iff_eq]; omega) (ip (by simp) ?_)
          have hle := (next_le e2).2
          rw [List.length_drop] at hle
          rw [ed] at e2
          rw [ed, lexL_tok hb e2, ← ed, List.drop_drop]
          have ew : IntKind.i64.wrap ((a : Int) + (n : Int)) = ((a + n : Nat) : Int) := by rw [w64 (by omega) (by omega)]; omega
          have := lex_b s hl s.length (a + n) [t.put a] (by omega) (by omega) (by simp; omega)
          show f48.l0b 0 (B s) (IntKind.i64.wrap ((a : Int) + (n : Int))) (tp [t.put a]) = _
          rw [ew, this]
          cases lexL (a + n) (s.drop (a + n)) with
          | inl e => rfl
          | inr r => rfl
        · subst hn
          refine ip rfl ?_
          rw [ed] at e2
          rw [ed, lexL_bad hb e2]
          rfl
    · exact stop a (by omega)
def lexS (s : List UInt8) : PV := if s.length ≤ 200 then lexR [] (lexL 0 s) else errR 0 3
theorem lex_ev (s : List UInt8) : D 48 [.sc (.string (B s))] = some (lexS s) := by
  rw [f48_eq 0]
  unfold lexS
  by_cases h : s.length ≤ 200
  · rw [if_pos h]
    refine im (by rw [decide_eq_true_eq, B_size]; omega) ?_
    have := lex_a s (by omega) s.length 0 (Nat.zero_le _) (by omega)
    rw [List.drop_zero] at this
    exact this
  · rw [if_neg h]
    exact ip (by rw [decide_eq_true_eq, B_size]; omega) rfl
theorem moved_l (a b : List Tk) (h : a.map (fun t => t.put 0) = b.map (fun t => t.put 0)) (hl : a.length ≤ 100000) : ∀ (d i : Nat), i + d = a.length → f52.l0a 0 b.length (fun i => (tp b).getD i .top) a.length (fun i => (tp a).getD i .top) (a.length : Int) (i : Int) = some (.sc (.bool true)) := by
  have hlen : a.length = b.length := by simpa using congrArg List.length h
  intro d
  induction d with
  | zero =>
    intro i hi
    rw [f52.l0a_eq]
    exact im (by rw [decide_eq_true_eq]; omega) rfl
  | succ d ih =>
    intro i hi
    have ha : i < a.length := by omega
    have hb : i < b.length := by omega
    have hg : a[i].put 0 = b[i].put 0 := by
      have := congrArg (fun z => z[i]?) h
      simpa [ha, hb] using this
    have h1 : a[i].kind = b[i].kind := by have := congrArg Tk.kind hg; exact this
    have h2 : a[i].text = b[i].text := by have := congrArg Tk.text hg; exact this
    have h3 : a[i].num = b[i].num := by have := congrArg Tk.num hg; exact this
    rw [f52.l0a_eq]
    have c1 : (0 : Int) ≤ (i : Int) := by omega
    have c2 : (i : Int) < (a.length : Int) := by omega
    have c3 : (i : Int) < (b.length : Int) := by omega
    rw [Int.toNat_natCast, tp_get ha, tp_get hb]
    refine ip (decide_eq_true c2) (ip c1 (ip c2 (ip rfl (ip c1 (ip c3 (ip rfl ?_))))))
    simp only [tkp_0, tkp_2, tkp_3, if_pos c1, if_pos c3, tkp_sh, if_true, bs, tb, bO, h1, h2, h3, bne_self_eq_false, Bool.false_eq_true, if_false, beq_self_eq_true, Bool.not_true, Bool.or_self]
    rw [nx ha (by omega)]
    exact ih (i + 1) (by omega)
theorem moved_ev (a b : List Tk) (h : a.map (fun t => t.put 0) = b.map (fun t => t.put 0)) (hl : a.length ≤ 100000) : D 52 [frozen 4 (tp a), frozen 4 (tp b)] = some (.sc (.bool true)) := by
  have hlen : a.length = b.length := by simpa using congrArg List.length h
  refine (f52_eq 0 _ _ _ _).trans ?_
  rw [tp_len, tp_len]
  refine im (by rw [bne_iff_ne]; omega) ?_
  exact moved_l a b h hl a.length 0 (by omega)
theorem alive21_ev : D 47 [] = some (.sc (.bool true)) := denI_of (k := 100) (by kernel_rfl)
end Go.Den.EX
/- The decimal with which a text begins: the reference. -/
set_option linter.unusedVariables false
set_option linter.unusedSimpArgs false
set_option maxRecDepth 100000
namespace Go.Den.EX
open Go Go.Proofs
theorem rlead_j2 {l : List UInt8} (hl : l.length ≤ 1000000) {n : Nat} (hn : n ≤ l.length) : f94.j2a 0 (B l) (n : Int) 0 0 false = some (pvTa (leadR l n)) := by
  rw [f94.j2a_eq]
  have := take_len l n
  refine ip (by omega) (ip (by rw [B_size]; omega) (ip (by omega) ?_))
  rw [take_ext]
  refine cb (rread_ev (l.take n) (by omega)) rfl ?_
  unfold leadR
  by_cases h : (readL (l.take n)).2 = true
  · rw [if_pos h]
    exact im (show ¬ (!(readL (l.take n)).2) = true by rw [h]; decide) rfl
  · rw [if_neg h]
    exact ip (show (!(readL (l.take n)).2) = true by simpa using h) rfl
theorem rlead_l1 {l : List UInt8} (hl : l.length ≤ 1000000) {n : Nat} (hn : n < l.length) (d : Nat) : ∀ e : Nat, e + d = 5 → n + e ≤ l.length →
    f94.l1a 0 (B l) (n : Int) (e : Int) 0 0 false = some (pvTa (leadR l (n + e + runD d (l.drop (n + e))))) := by
  induction d with
  | zero =>
    intro e h he
    have e4 : IntKind.i64.wrap ((n : Int) + (e : Int)) = ((n + e : Nat) : Int) := by rw [w64 (by omega) (by omega)]; omega
    rw [f94.l1a_eq, e4]
    have c : decide ((e : Int) ≤ 4) = false := by rw [decide_eq_false_iff_not]; omega
    rw [c]
    simp only [bs, tb, Bool.false_eq_true, if_false]
    exact rlead_j2 hl he
  | succ d ih =>
    intro e h he
    have e4 : IntKind.i64.wrap ((n : Int) + (e : Int)) = ((n + e : Nat) : Int) := by rw [w64 (by omega) (by omega)]; omega
    rw [f94.l1a_eq, e4]
    have c : decide ((e : Int) ≤ 4) = true := by rw [decide_eq_true_eq]; omega
    rw [c]
    simp only [digit_g, bs, shb, tb, if_true]
    rw [runD_step]
    by_cases hd : isDp l (n + e) = true
    · have h1 := dp_lt hd
      rw [if_pos hd]
      refine ip hd ?_
      rw [nx (i := e) (n := 6) (by omega) (by decide)]
      have := ih (e + 1) (by omega) (by omega)
      rw [← Nat.add_assoc (n + e)]
      exact this
    · rw [if_neg hd]
      exact im hd (rlead_j2 hl he)
theorem rlead_mid {l : List UInt8} (hl : l.length ≤ 1000000) {n : Nat} (hn : n ≤ l.length) {c : Bool} (hc : c = false) : (if c = true then f94.l0a 0 (B l) (IntKind.i64.wrap ((n : Int) + 1)) 0 0 false else
    Option.bind (α := PV) (if decide ((n : Int) > 0) = true then some (.sc (.bool (decide ((n : Int) < ((B l).size : Int))))) else some (.sc (.bool false))) fun r5 =>
    Option.bind (α := PV) (if r5.toBool = true then Option.bind (α := PV) (Option.bind (α := PV) (if 0 ≤ (n : Int) then if (n : Int) < ((B l).size : Int) then some (.sc (.bool ((bt (B l) (n : Int)) == 46))) else none else none) fun r6 => some (.sc (.bool r6.toBool))) fun r7 => some (.sc (.bool r7.toBool)) else some (.sc (.bool false))) fun r8 =>
    Option.bind (α := PV) (if r8.toBool = true then Option.bind (α := PV) (Option.bind (α := PV) (Option.bind (α := PV) ((D 93 [.sc (.string (B l)), .sc (.int .i64 (IntKind.i64.wrap ((n : Int) + 1)))]).bind fun r9 => if hasSh .bool r9 = true then some (.sc (.bool r9.toBool)) else none) fun r10 => some (.sc (.bool r10.toBool))) fun r11 => some (.sc (.bool r11.toBool))) fun r12 => some (.sc (.bool r12.toBool)) else some (.sc (.bool false))) fun r13 =>
    if r13.toBool = true then f94.l1a 0 (B l) (n : Int) 1 0 0 false else f94.j2a 0 (B l) (n : Int) 0 0 false) = some (pvTa (leadR l (leadN l n))) := by
  subst hc
  refine im (by decide) ?_
  have e1 : IntKind.i64.wrap ((n : Int) + 1) = ((n + 1 : Nat) : Int) := by rw [w64 (by omega) (by omega)]; rfl
  rw [e1, digit_g]
  unfold leadN
  by_cases h0 : 0 < n
  · have c0 : decide ((n : Int) > 0) = true := by rw [decide_eq_true_eq]; omega
    rw [c0]
    by_cases h1 : n < l.length
    · have c1 : decide ((n : Int) < ((B l).size : Int)) = true := by rw [decide_eq_true_eq, B_size]; omega
      have c2 : (0 : Int) ≤ (n : Int) := by omega
      have c3 : (n : Int) < ((B l).size : Int) := by rw [B_size]; omega
      rw [c1, bt46 h1]
      simp only [bs, tb, shb, if_true, if_pos c2, if_pos c3]
      by_cases h2 : l[n] = 46
      · have e2 : (l[n] == 46) = true := by rw [h2]; rfl
        rw [e2]
        simp only [bs, tb, if_true]
        have hh : (l.drop n).head? = some 46 := by rw [List.drop_eq_getElem_cons h1, h2]; rfl
        by_cases h3 : isDp l (n + 1) = true
        · rw [if_pos ⟨h0, hh, h3⟩]
          refine ip h3 ?_
          have := dp_lt h3
          exact rlead_l1 hl h1 4 1 (by omega) (by omega)
        · rw [if_neg (fun z => h3 z.2.2)]
          exact im h3 (rlead_j2 hl hn)
      · have e2 : (l[n] == 46) = false := beq_eq_false_iff_ne.2 h2
        rw [e2]
        simp only [bs, tb, Bool.false_eq_true, if_false]
        rw [if_neg (fun z => h2 (by have := z.2.1; rw [List.drop_eq_getElem_cons h1] at this; exact Option.some.inj this))]
        exact rlead_j2 hl hn
    · have c1 : decide ((n : Int) < ((B l).size : Int)) = false := by rw [decide_eq_false_iff_not, B_size]; omega
      rw [c1]
      simp only [bs, tb, if_true, Bool.false_eq_true, if_false]
      rw [if_neg (fun z => by have := z.2.1; rw [List.drop_eq_nil_of_le (by omega)] at this; cases this)]
      exact rlead_j2 hl hn
  · have c0 : decide ((n : Int) > 0) = false := by rw [decide_eq_false_iff_not]; omega
    rw [c0]
    simp only [bs, tb, Bool.false_eq_true, if_false]
    rw [if_neg (fun z => h0 z.1)]
    exact rlead_j2 hl hn
theorem rlead_l0 {l : List UInt8} (hl : l.length ≤ 1000000) (d : Nat) : ∀ i : Nat, i + d = 30 → i ≤ l.length → f94.l0a 0 (B l) (i : Int) 0 0 false = some (pvTa (leadR l (leadN l (i + runD d (l.drop i))))) := by
  induction d with
  | zero =>
    intro i h hi
    rw [f94.l0a_eq]
    have c : decide ((i : Int) < 30) = false := by rw [decide_eq_false_iff_not]; omega
    rw [c]
    exact rlead_mid hl hi rfl
  | succ d ih =>
    intro i h hi
    rw [f94.l0a_eq]
    have c : decide ((i : Int) < 30) = true := by rw [decide_eq_true_eq]; omega
    rw [c, digit_g]
    rw [runD_step]
    by_cases hd : isDp l i = true
    · have h1 := dp_lt hd
      rw [if_pos hd, hd]
      simp only [bs, shb, tb, if_true]
      rw [nx h1 (by omega), ← Nat.add_assoc]
      exact ih (i + 1) (by omega) (by omega)
    · have hd' : isDp l i = false := by simpa using hd
      rw [if_neg hd, hd']
      exact rlead_mid hl hi rfl
theorem rleadR_L (l : List UInt8) : leadR l (leadN l (0 + runD 30 (l.drop 0))) = leadL l := by
  rw [Nat.zero_add, List.drop_zero]; rfl
theorem rlead_ev {l : List UInt8} (hl : l.length ≤ 1000000) : D 94 [.sc (.string (B l))] = some (pvTa (leadL l)) := by
  rw [f94_eq 0]
  have := rlead_l0 hl 30 0 rfl (Nat.zero_le _)
  rw [rleadR_L] at this
  exact this
end Go.Den.EX
