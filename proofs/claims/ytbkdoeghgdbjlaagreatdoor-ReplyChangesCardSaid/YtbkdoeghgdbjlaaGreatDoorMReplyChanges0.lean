/- ReplyChanges: whatever the input, the law returns true; each argument reads behind the call as it read before. No condition. -/
import Derived.Test.YtbkdoeghgdbjlaaGreatDoorDenV
import Derived.Lib.IndexBytes
import Derived.Lib.IndexMore
import Derived.Lib.ItoaNum
import Derived.Laws.Strings
import Derived.Laws.BitsLemmas
import Derived.Lib.Fields
import Derived.Lib.TrimByte
import Derived.Test.YtbkdoeghgdbjlaaGreatDoorECx0
import Derived.Test.YtbkdoeghgdbjlaaGreatDoorECx1
import Derived.Test.YtbkdoeghgdbjlaaGreatDoorECx2
import Derived.Lib.Replace
import Derived.Lib.Split
import Derived.Lib.SplitLaws
import Derived.Test.YtbkdoeghgdbjlaaGreatDoorDenY
import Derived.Test.YtbkdoeghgdbjlaaGreatDoorTie
import Derived.Test.YtbkdoeghgdbjlaaGreatDoorCards
import Derived.LaidMore
import Derived.Lay
import Derived.SevenTiedAt
import Derived.Stop.Joined
import Derived.Handy
import Derived.Test.YtbkdoeghgdbjlaaGreatDoorDenU
import Derived.Test.YtbkdoeghgdbjlaaGreatDoorRows
import Derived.Test.YtbkdoeghgdbjlaaGreatDoorECh
/- Decimals as texts: the plain part. -/
namespace Go.Den
open Go Go.RowKit Go.Proofs
set_option linter.unusedVariables false
set_option linter.unusedSimpArgs false
theorem u64w (x : Int) : IntKind.u64.wrap x = x % 18446744073709551616 := by
  simp [IntKind.wrap, IntKind.bits, IntKind.signed]
theorem u64i {x : Int} (h0 : 0 ≤ x) (h : x < 18446744073709551616) : IntKind.u64.wrap x = x := by
  rw [u64w]; omega
theorem and32 {a : Int} (h0 : 0 ≤ a) (h1 : a < 18446744073709551616) : Go.bits .and .u64 a 4294967295 = a % 4294967296 :=
  bits_mask .u64 64 (by decide) (fun n h0 h1 => u64i h0 (by simpa using h1)) 32 (by decide) a h0 (by simpa using h1)
theorem prodB {x y : Int} (hx0 : 0 ≤ x) (hx : x ≤ 4294967295) (hy0 : 0 ≤ y) (hy : y ≤ 4294967295) : 0 ≤ x * y ∧ x * y ≤ 18446744065119617025 :=
  ⟨Int.mul_nonneg hx0 hy0, Int.le_trans (Int.mul_le_mul hx hy hy0 (by decide)) (by decide)⟩
def B (l : List UInt8) : ByteArray := ⟨l.toArray⟩
theorem B_of (s : ByteArray) : ∃ l, s = B l := ⟨s.data.toList, by rcases s with ⟨⟨l⟩⟩; rfl⟩
theorem B_data (l : List UInt8) : (B l).data.toList = l := rfl
theorem B_size (l : List UInt8) : (B l).size = l.length := rfl
theorem B_append (l m : List UInt8) : B l ++ B m = B (l ++ m) := by
  apply ByteArray.ext
  simp [B]
theorem B_toList (l : List UInt8) : (B l).toList = l := by
  exact ByteArray.toList_eq _
theorem B_inj {l m : List UInt8} : B l = B m ↔ l = m := ⟨fun h => by have := congrArg (fun s : ByteArray => s.data.toList) h; exact this, fun h => by rw [h]⟩
theorem B_extract (l : List UInt8) (i j : Nat) : (B l).extract i j = B ((l.drop i).take (j - i)) := by
  apply ByteArray.ext
  simp [B]
theorem B_bt {l : List UInt8} {i : Nat} (h : i < l.length) : bt (B l) (i : Int) = (l[i].toNat : Int) := by
  unfold bt
  rw [dif_pos (show ((i : Int)).toNat < (B l).size by rw [Int.toNat_natCast]; exact h)]
  rfl
def May (x : Int) : Prop := -9223372036854775808 < x ∧ x ≤ 9223372036854775807
instance (x : Int) : Decidable (May x) := by unfold May; infer_instance
/-- The sign of what three signs give. -/
def sg (a b c q : Int) : Int := if ((decide (a < 0) != decide (b < 0)) != decide (c < 0)) = true then -q else q
theorem natAbs_lt {x : Int} (h : May x) : 0 ≤ (x.natAbs : Int) ∧ (x.natAbs : Int) ≤ 9223372036854775807 := by unfold May at h; omega
theorem abs_prod {a b : Int} (ha : May a) (hb : May b) : 0 ≤ (a.natAbs : Int) * b.natAbs ∧ (a.natAbs : Int) * b.natAbs ≤ 85070591730234615847396907784232501249 :=
  ⟨Int.mul_nonneg (natAbs_lt ha).1 (natAbs_lt hb).1, Int.le_trans (Int.mul_le_mul (natAbs_lt ha).2 (natAbs_lt hb).2 (natAbs_lt hb).1 (by decide)) (by decide)⟩

def I64 (x : Int) : Prop := -9223372036854775808 ≤ x ∧ x ≤ 9223372036854775807
theorem May.i {x : Int} (h : May x) : I64 x := by unfold May at h; unfold I64; omega
def addS (a b : Int) : Int × Bool := if May a ∧ May b ∧ May (a + b) then (a + b, true) else (0, false)
def negS (a : Int) : Int × Bool := if May a then (-a, true) else (0, false)
def subS (a b : Int) : Int × Bool := if May a ∧ May b ∧ May (a - b) then (a - b, true) else (0, false)
theorem addS_yes {a b : Int} (h : May a ∧ May b ∧ May (a + b)) : addS a b = (a + b, true) := if_pos h
theorem addS_no {a b : Int} (h : ¬ May (a + b)) : addS a b = (0, false) := if_neg (fun hh => h hh.2.2)
theorem tdm (a : Int) {m : Int} (hm : 0 < m) : a = a.tdiv m * m + a.tmod m ∧ (0 ≤ a → 0 ≤ a.tmod m ∧ a.tmod m < m) ∧ (a ≤ 0 → -m < a.tmod m ∧ a.tmod m ≤ 0) := by
  refine ⟨(Int.tdiv_mul_add_tmod a m).symm, fun h => ⟨Int.tmod_nonneg _ h, Int.tmod_lt_of_pos _ hm⟩, fun h => ?_⟩
  have h1 := Int.tmod_nonneg m (a := -a) (by omega)
  have h2 := Int.tmod_lt_of_pos (-a) hm
  rw [Int.neg_tmod] at h1 h2
  omega
def mulS (a b : Int) : Int × Bool := if May a ∧ May b ∧ May (a * b) then (a * b, true) else (0, false)
theorem mulS_yes {a b : Int} (h : May a ∧ May b ∧ May (a * b)) : mulS a b = (a * b, true) := if_pos h
theorem mulS_no {a b : Int} (h : ¬ May (a * b)) : mulS a b = (0, false) := if_neg (fun hh => h hh.2.2)
theorem sg_one (a b : Int) : sg a b 1 ((a.natAbs : Int) * b.natAbs) = a * b := by
  unfold sg
  rcases (by omega : a < 0 ∨ 0 ≤ a) with ha | ha <;> rcases (by omega : b < 0 ∨ 0 ≤ b) with hb | hb
  · rw [decide_eq_true ha, decide_eq_true hb, Int.ofNat_natAbs_of_nonpos (by omega), Int.ofNat_natAbs_of_nonpos (by omega)]
    simp [Int.neg_mul_neg]
  · rw [decide_eq_true ha, decide_eq_false (by omega), Int.ofNat_natAbs_of_nonpos (by omega), Int.natAbs_of_nonneg hb]
    simp [Int.neg_mul]
  · rw [decide_eq_false (by omega), decide_eq_true hb, Int.natAbs_of_nonneg ha, Int.ofNat_natAbs_of_nonpos (by omega)]
    simp [Int.mul_neg]
  · rw [decide_eq_false (by omega), decide_eq_false (by omega), Int.natAbs_of_nonneg ha, Int.natAbs_of_nonneg hb]
    simp
theorem mul64_math {a b : Int} (ha0 : 0 ≤ a) (ha : a < 18446744073709551616) (hb0 : 0 ≤ b) (hb : b < 18446744073709551616) :
    ∃ p11 p10 p01 p00 : Int, p11 = (a / 4294967296) * (b / 4294967296) ∧ p10 = (a / 4294967296) * (b % 4294967296) ∧ p01 = (a % 4294967296) * (b / 4294967296) ∧ p00 = (a % 4294967296) * (b % 4294967296)
      ∧ (0 ≤ p11 ∧ p11 ≤ 18446744065119617025) ∧ (0 ≤ p10 ∧ p10 ≤ 18446744065119617025) ∧ (0 ≤ p01 ∧ p01 ≤ 18446744065119617025) ∧ (0 ≤ p00 ∧ p00 ≤ 18446744065119617025)
      ∧ a * b = p11 * 18446744073709551616 + (p10 + p01) * 4294967296 + p00 := by
  refine ⟨_, _, _, _, rfl, rfl, rfl, rfl, prodB (by omega) (by omega) (by omega) (by omega), prodB (by omega) (by omega) (by omega) (by omega), prodB (by omega) (by omega) (by omega) (by omega), prodB (by omega) (by omega) (by omega) (by omega), ?_⟩
  have ea : a = a / 4294967296 * 4294967296 + a % 4294967296 := by omega
  have eb : b = b / 4294967296 * 4294967296 + b % 4294967296 := by omega
  generalize a / 4294967296 = x1 at *
  generalize a % 4294967296 = x0 at *
  generalize b / 4294967296 = y1 at *
  generalize b % 4294967296 = y0 at *
  subst ea eb
  grind

def dc (n : Nat) : UInt8 := UInt8.ofNat (48 + n)
theorem dd_small {n : Nat} (h : n < 10) : Lib.decDigits n = [dc n] := by rw [Lib.decDigits, dif_pos h]; rfl
theorem dd_big {n : Nat} (h : ¬ n < 10) : Lib.decDigits n = Lib.decDigits (n / 10) ++ [dc (n % 10)] := by rw [Lib.decDigits, dif_neg h]; rfl
/-- The digits ahead of the last one. -/
def dg (n : Nat) : List UInt8 := if n = 0 then [] else Lib.decDigits n
theorem dg_step (n : Nat) : dg (n / 10) ++ [dc (n % 10)] = Lib.decDigits n := by
  by_cases h : n < 10
  · rw [dd_small h, dg, if_pos (by omega), List.nil_append, Nat.mod_eq_of_lt h]
  · rw [dd_big h, dg, if_neg (by omega)]
theorem dd_len (d : Nat) : ∀ n, n < 10 ^ (d + 1) → (Lib.decDigits n).length ≤ d + 1 := by
  induction d with
  | zero => intro n h; rw [dd_small (by simpa using h)]; simp
  | succ d ih =>
    intro n h
    by_cases h1 : n < 10
    · rw [dd_small h1]; simp
    · rw [dd_big h1, List.length_append]
      have := ih (n / 10) (by rw [Nat.pow_succ] at h; omega)
      simp
      omega
/-- The parts behind the point: no nought at the end. -/
def fracL : Nat → Nat → List UInt8
  | 0, _ => []
  | d + 1, r => if r = 0 then [] else dc (r / 1000) :: fracL d (r % 1000 * 10)
def fracS (r : Nat) : List UInt8 := if r = 0 then [] else 46 :: fracL 4 r
def texL (x : Int) : List UInt8 := (if x < 0 then [45] else []) ++ Lib.decDigits (x.natAbs / 10000) ++ fracS (x.natAbs % 10000)
def texS (x : Int) : List UInt8 := if May x then texL x else []
theorem head_len {x : Int} (h : May x) : ((if x < 0 then [45] else []) ++ Lib.decDigits (x.natAbs / 10000) : List UInt8).length ≤ 17 := by
  have h1 := dd_len 15 (x.natAbs / 10000) (by unfold May at h; omega)
  rw [List.length_append]
  split <;> simp <;> omega
theorem itoa_nat (n : Nat) : Lib.itoa (n : Int) = Lib.decDigits n := by
  unfold Lib.itoa
  rw [if_neg (by omega), Int.toNat_natCast]
theorem itoa_neg {n : Nat} (h : 0 < n) : Lib.itoa (-(n : Int)) = 45 :: Lib.decDigits n := by
  unfold Lib.itoa
  rw [if_pos (by omega), Int.natAbs_neg, Int.natAbs_natCast]
theorem four {r : Nat} (h : r < 10000) : Lib.decDigits (10000 + r) = [49, dc (r / 1000), dc (r / 100 % 10), dc (r / 10 % 10), dc (r % 10)] := by
  rw [dd_big (by omega), dd_big (by omega), dd_big (by omega), dd_big (by omega), dd_small (by omega)]
  rw [show (10000 + r) / 10 / 10 / 10 / 10 = 1 by omega, show (10000 + r) / 10 / 10 / 10 % 10 = r / 1000 by omega, show (10000 + r) / 10 / 10 % 10 = r / 100 % 10 by omega, show (10000 + r) / 10 % 10 = r / 10 % 10 by omega, show (10000 + r) % 10 = r % 10 by omega]
  rfl
theorem dc_eq {n : Nat} (h : n < 10) : (dc n == 48) = decide (n = 0) := by
  have : ∀ m : Fin 10, (dc m.val == 48) = decide (m.val = 0) := by decide
  exact this ⟨n, h⟩
theorem trim_eq {r : Nat} (h : r < 10000) (h0 : r ≠ 0) : Lib.trimRightB [dc (r / 1000), dc (r / 100 % 10), dc (r / 10 % 10), dc (r % 10)] 48 = fracL 4 r := by
  have e1 := dc_eq (n := r / 1000) (by omega)
  have e2 := dc_eq (n := r / 100 % 10) (by omega)
  have e3 := dc_eq (n := r / 10 % 10) (by omega)
  have e4 := dc_eq (n := r % 10) (by omega)
  have s1 : fracL 4 r = dc (r / 1000) :: fracL 3 (r % 1000 * 10) := by rw [fracL, if_neg h0]
  have s2 : r % 1000 * 10 ≠ 0 → fracL 3 (r % 1000 * 10) = dc (r / 100 % 10) :: fracL 2 (r % 100 * 100) := fun hh => by
    rw [fracL, if_neg hh, show r % 1000 * 10 / 1000 = r / 100 % 10 by omega, show r % 1000 * 10 % 1000 * 10 = r % 100 * 100 by omega]
  have s3 : r % 100 * 100 ≠ 0 → fracL 2 (r % 100 * 100) = dc (r / 10 % 10) :: fracL 1 (r % 10 * 1000) := fun hh => by
    rw [fracL, if_neg hh, show r % 100 * 100 / 1000 = r / 10 % 10 by omega, show r % 100 * 100 % 1000 * 10 = r % 10 * 1000 by omega]
  have s4 : r % 10 * 1000 ≠ 0 → fracL 1 (r % 10 * 1000) = [dc (r % 10)] := fun hh => by
    rw [fracL, if_neg hh, show r % 10 * 1000 / 1000 = r % 10 by omega]; rfl
  have z : ∀ d, fracL d 0 = [] := fun d => by cases d <;> simp [fracL]
  rw [s1]
  unfold Lib.trimRightB
  simp only [List.reverse_cons, List.reverse_nil, List.nil_append, List.cons_append]
  by_cases h4 : r % 10 = 0
  · rw [List.dropWhile_cons_of_pos (by rw [e4]; exact decide_eq_true h4)]
    by_cases h3 : r / 10 % 10 = 0
    · rw [List.dropWhile_cons_of_pos (by rw [e3]; exact decide_eq_true h3)]
      by_cases h2 : r / 100 % 10 = 0
      · rw [List.dropWhile_cons_of_pos (by rw [e2]; exact decide_eq_true h2), List.dropWhile_cons_of_neg (by rw [e1]; simp; omega), show r % 1000 * 10 = 0 by omega, z]
        rfl
      · rw [List.dropWhile_cons_of_neg (by rw [e2]; simp; omega), s2 (by omega), show r % 100 * 100 = 0 by omega, z]
        rfl
    · rw [List.dropWhile_cons_of_neg (by rw [e3]; simp; omega), s2 (by omega), s3 (by omega), show r % 10 * 1000 = 0 by omega, z]
      rfl
  · rw [List.dropWhile_cons_of_neg (by rw [e4]; simp; omega), s2 (by omega), s3 (by omega), s4 (by omega)]
    rfl
theorem rest_of {x : Int} (h : May x) : x.tmod 10000 = (if x < 0 then -((x.natAbs % 10000 : Nat) : Int) else ((x.natAbs % 10000 : Nat) : Int)) := by
  have t := tdm x (m := 10000) (by decide)
  split <;> omega
def isD (b : UInt8) : Bool := decide (48 ≤ b.toNat) && decide (b.toNat ≤ 57)
def valL : List UInt8 → Nat → Nat
  | [], n => n
  | b :: l, n => valL l (n * 10 + (b.toNat - 48))
theorem valL_ge : ∀ (l : List UInt8) (n : Nat), n ≤ valL l n
  | [], n => Nat.le_refl _
  | b :: l, n => Nat.le_trans (by omega) (valL_ge l _)
def numS (w : List UInt8) : Int × Bool := if w ≠ [] ∧ w.all isD = true ∧ (valL w 0 : Int) ≤ 9223372036854775807 then ((valL w 0 : Int), true) else (0, false)
def minusL (l : List UInt8) : Bool := Lib.hasPrefix l [45]
def bodyL (l : List UInt8) : List UInt8 := Lib.trimPrefix l [45]
/-- Ahead of the first point, behind it, is there one? -/
def cutL : List UInt8 → List UInt8 × List UInt8 × Bool
  | [] => ([], [], false)
  | b :: l => if b = 46 then ([], l, true) else (b :: (cutL l).1, (cutL l).2.1, (cutL l).2.2)
theorem idx_range : ∀ (l : List UInt8) (c : UInt8), -1 ≤ Lib.indexByte l c ∧ Lib.indexByte l c < (l.length : Int)
  | [], c => by unfold Lib.indexByte; simp
  | b :: l, c => by
    have := idx_range l c
    unfold Lib.indexByte
    simp only [List.length_cons]
    split
    · omega
    · split <;> omega
theorem cut_eq (l : List UInt8) : Lib.cut l [46] = cutL l := by
  unfold Lib.cut
  rw [Lib.index_one]
  induction l with
  | nil => rfl
  | cons b l ih =>
    have ei : Lib.indexByte (b :: l) 46 = if (b == 46) = true then 0 else if (Lib.indexByte l 46 == -1) = true then -1 else Lib.indexByte l 46 + 1 := by rw [Lib.indexByte]
    rw [cutL]
    by_cases hb : b = 46
    · rw [if_pos (by simp [hb])] at ei
      rw [ei, if_pos (by decide), if_pos hb]
      rfl
    · rw [if_neg (by simp [hb])] at ei
      have hr := idx_range l 46
      rw [if_neg hb]
      generalize Lib.indexByte (b :: l) 46 = i at *
      generalize Lib.indexByte l 46 = j at *
      by_cases hj : j = -1
      · subst hj
        rw [if_pos (by decide)] at ei
        subst ei
        rw [if_neg (by decide)] at ih
        rw [if_neg (by decide), ← ih]
      · obtain ⟨n, rfl⟩ : ∃ n : Nat, j = n := ⟨j.toNat, by omega⟩
        rw [if_neg (by simp)] at ei
        subst ei
        rw [if_pos (by omega)] at ih
        rw [if_pos (by omega), ← ih, show ((n : Int) + 1).toNat = n + 1 by omega, Int.toNat_natCast]
        simp
/-- Ten-thousandths. -/
def totL (c : List UInt8 × List UInt8 × Bool) : Nat := valL c.1 0 * 10000 + valL c.2.1 0 * 10 ^ (4 - c.2.1.length)
def rightL (c : List UInt8 × List UInt8 × Bool) : Prop := c.1 ≠ [] ∧ c.1.all isD = true ∧ (c.2.2 = true → c.2.1 ≠ [] ∧ c.2.1.all isD = true ∧ c.2.1.length ≤ 4) ∧ (totL c : Int) ≤ 9223372036854775807
instance (c : List UInt8 × List UInt8 × Bool) : Decidable (rightL c) := by unfold rightL; infer_instance
def readL (l : List UInt8) : Int × Bool :=
  if l.length ≤ 40 ∧ rightL (cutL (bodyL l)) then (if minusL l = true then -(totL (cutL (bodyL l)) : Int) else (totL (cutL (bodyL l)) : Int), true) else (0, false)
theorem cut_len : ∀ l : List UInt8, (cutL l).1.length ≤ l.length ∧ (cutL l).2.1.length ≤ l.length ∧ ((cutL l).2.2 = false → (cutL l).2.1 = [])
  | [] => ⟨Nat.le_refl _, Nat.le_refl _, fun _ => rfl⟩
  | b :: l => by
    obtain ⟨h1, h2, h3⟩ := cut_len l
    unfold cutL
    by_cases hb : b = 46
    · rw [if_pos hb]
      exact ⟨Nat.zero_le _, by simp, fun h => by cases h⟩
    · rw [if_neg hb]
      exact ⟨by simp; omega, by simp; omega, h3⟩
theorem pow_next {e : Nat} : 10 ^ (e + 1) = 10 ^ e * 10 := Nat.pow_succ ..
theorem val_lt : ∀ (l : List UInt8) (n : Nat), l.all isD = true → valL l n + 1 ≤ (n + 1) * 10 ^ l.length
  | [], n, _ => by simp [valL]
  | b :: l, n, h => by
    rw [List.all_cons, Bool.and_eq_true] at h
    have hb : b.toNat - 48 ≤ 9 := by
      have := h.1
      unfold isD at this
      simp at this
      omega
    have := val_lt l (n * 10 + (b.toNat - 48)) h.2
    rw [valL, List.length_cons, Nat.pow_succ]
    refine Nat.le_trans this ?_
    rw [Nat.mul_comm (10 ^ l.length) 10, ← Nat.mul_assoc]
    exact Nat.mul_le_mul_right _ (by omega)
theorem body_len (l : List UInt8) : (bodyL l).length ≤ l.length := by
  unfold bodyL Lib.trimPrefix
  split
  · rw [List.length_drop]; omega
  · exact Nat.le_refl _
theorem numS_yes {w : List UInt8} (h : w ≠ [] ∧ w.all isD = true ∧ (valL w 0 : Int) ≤ 9223372036854775807) : numS w = ((valL w 0 : Int), true) := if_pos h
theorem numS_no {w : List UInt8} (h : ¬ (w ≠ [] ∧ w.all isD = true ∧ (valL w 0 : Int) ≤ 9223372036854775807)) : numS w = (0, false) := if_neg h
theorem dc_nat {n : Nat} (h : n < 10) : (dc n).toNat = 48 + n := by
  have : ∀ m : Fin 10, (dc m.val).toNat = 48 + m.val := by decide
  exact this ⟨n, h⟩
theorem dc_isD {n : Nat} (h : n < 10) : isD (dc n) = true := by
  unfold isD
  rw [dc_nat h, decide_eq_true (by omega), decide_eq_true (by omega)]; rfl
theorem valL_append : ∀ (l m : List UInt8) (n : Nat), valL (l ++ m) n = valL m (valL l n)
  | [], m, n => rfl
  | b :: l, m, n => by rw [List.cons_append, valL, valL, valL_append l m]
theorem dd_ind (P : Nat → Prop) (h0 : ∀ n, n < 10 → P n) (h1 : ∀ n, ¬ n < 10 → P (n / 10) → P n) : ∀ n, P n := by
  intro n
  induction n using Nat.strongRecOn with
  | _ n ih =>
    by_cases h : n < 10
    · exact h0 n h
    · exact h1 n h (ih (n / 10) (by omega))
theorem dd_val (n : Nat) : valL (Lib.decDigits n) 0 = n := by
  refine dd_ind (fun n => valL (Lib.decDigits n) 0 = n) (fun n h => ?_) (fun n h ih => ?_) n
  · rw [dd_small h, valL, valL, dc_nat h]; omega
  · rw [dd_big h, valL_append, ih, valL, valL, dc_nat (Nat.mod_lt _ (by decide))]; omega
theorem dd_all (n : Nat) : (Lib.decDigits n).all isD = true := by
  refine dd_ind (fun n => (Lib.decDigits n).all isD = true) (fun n h => ?_) (fun n h ih => ?_) n
  · rw [dd_small h, List.all_cons, dc_isD h]; rfl
  · rw [dd_big h, List.all_append, ih, List.all_cons, dc_isD (Nat.mod_lt _ (by decide))]; rfl
theorem dd_ne (n : Nat) : Lib.decDigits n ≠ [] := by
  by_cases h : n < 10
  · rw [dd_small h]; simp
  · rw [dd_big h]; simp
theorem frac_all (d : Nat) : ∀ r, r < 10000 → (fracL d r).all isD = true := by
  induction d with
  | zero => intro r _; rfl
  | succ d ih =>
    intro r h
    rw [fracL]
    split
    · rfl
    · rw [List.all_cons, dc_isD (by omega), ih _ (by omega)]; rfl
theorem frac_len (d : Nat) : ∀ r, (fracL d r).length ≤ d := by
  induction d with
  | zero => intro r; exact Nat.le_refl _
  | succ d ih =>
    intro r
    rw [fracL]
    split
    · exact Nat.zero_le _
    · have := ih (r % 1000 * 10); rw [List.length_cons]; omega
theorem frac_val (d : Nat) : ∀ r m, d ≤ 4 → r < 10000 → r % 10 ^ (4 - d) = 0 → valL (fracL d r) m * 10 ^ (d - (fracL d r).length) = m * 10 ^ d + r / 10 ^ (4 - d) := by
  induction d with
  | zero =>
    intro r m _ h hz
    obtain rfl : r = 0 := by omega
    simp [fracL, valL]
  | succ d ih =>
    intro r m hd h hz
    rw [fracL]
    by_cases h0 : r = 0
    · subst h0
      rw [if_pos rfl]
      simp [valL]
    · rw [if_neg h0, valL, dc_nat (show r / 1000 < 10 by omega), List.length_cons]
      have hz2 : r % 1000 * 10 % 10 ^ (4 - d) = 0 := by
        have hd' : d = 0 ∨ d = 1 ∨ d = 2 ∨ d = 3 := by omega
        rcases hd' with rfl | rfl | rfl | rfl <;> simp at hz ⊢ <;> omega
      have := ih (r % 1000 * 10) (m * 10 + (48 + r / 1000 - 48)) (by omega) (by omega) hz2
      rw [show d + 1 - ((fracL d (r % 1000 * 10)).length + 1) = d - (fracL d (r % 1000 * 10)).length by omega, this]
      have hd' : d = 0 ∨ d = 1 ∨ d = 2 ∨ d = 3 := by omega
      rcases hd' with rfl | rfl | rfl | rfl <;> simp at hz ⊢ <;> omega
/-- Digits ahead of the point, and behind it. -/
def strD (w f : List UInt8) : List UInt8 := w ++ (if f = [] then [] else 46 :: f)
theorem isD_ne {b : UInt8} (h : isD b = true) : b ≠ 46 ∧ b ≠ 45 := by
  constructor <;> (intro e; subst e; revert h; decide)
theorem cut_str {w : List UInt8} (h : w.all isD = true) (f : List UInt8) : cutL (strD w f) = (w, f, f != []) := by
  unfold strD
  induction w with
  | nil =>
    by_cases hf : f = []
    · subst hf; rfl
    · rw [if_neg hf, List.nil_append, cutL, if_pos rfl, show (f != []) = true by simpa using hf]
  | cons b w ih =>
    rw [List.all_cons, Bool.and_eq_true] at h
    rw [List.cons_append, cutL, if_neg (isD_ne h.1).1, ih h.2]
theorem body_str {w : List UInt8} (h : w.all isD = true) (h0 : w ≠ []) (f : List UInt8) : minusL (strD w f) = false ∧ bodyL (strD w f) = strD w f := by
  rcases w with _ | ⟨b, w⟩
  · exact absurd rfl h0
  · rw [List.all_cons, Bool.and_eq_true] at h
    have hb : (b == (45 : UInt8)) = false := beq_eq_false_iff_ne.mpr (isD_ne h.1).2
    have hm : Lib.hasPrefix (strD (b :: w) f) [45] = false := by
      unfold strD
      rw [List.cons_append]
      simp [Lib.hasPrefix, List.isPrefixOf, Ne.symm (isD_ne h.1).2]
    refine ⟨hm, ?_⟩
    unfold bodyL Lib.trimPrefix
    rw [hm]; rfl
theorem body_minus (l : List UInt8) : minusL (45 :: l) = true ∧ bodyL (45 :: l) = l := by
  have hm : Lib.hasPrefix ((45 : UInt8) :: l) [45] = true := by simp [Lib.hasPrefix]
  refine ⟨hm, ?_⟩
  unfold bodyL Lib.trimPrefix
  rw [hm]; rfl
theorem right_str {w f : List UInt8} (h : w.all isD = true) (h0 : w ≠ []) (hf : f.all isD = true) (hl : f.length ≤ 4) {t : Nat} (ht : valL w 0 * 10000 + valL f 0 * 10 ^ (4 - f.length) = t) (hm : (t : Int) ≤ 9223372036854775807) :
    rightL (cutL (strD w f)) ∧ totL (cutL (strD w f)) = t := by
  rw [cut_str h]
  have e : totL (w, f, f != []) = t := ht
  refine ⟨⟨h0, h, fun hh => ⟨by simpa using hh, hf, hl⟩, by rw [e]; exact hm⟩, e⟩
theorem read_str {w f : List UInt8} (h : w.all isD = true) (h0 : w ≠ []) (hf : f.all isD = true) (hl : f.length ≤ 4) (hw : w.length ≤ 30) {t : Nat} (ht : valL w 0 * 10000 + valL f 0 * 10 ^ (4 - f.length) = t) (hm : (t : Int) ≤ 9223372036854775807) :
    readL (strD w f) = ((t : Int), true) ∧ readL (45 :: strD w f) = (-(t : Int), true) := by
  obtain ⟨hr, he⟩ := right_str h h0 hf hl ht hm
  have hs : (strD w f).length ≤ 35 := by
    unfold strD
    rw [List.length_append]
    split
    · simp; omega
    · rw [List.length_cons]; omega
  obtain ⟨b1, b2⟩ := body_str h h0 f
  obtain ⟨c1, c2⟩ := body_minus (strD w f)
  constructor
  · unfold readL
    rw [b2, b1, if_pos ⟨by omega, hr⟩, he]; rfl
  · unfold readL
    rw [c2, c1, if_pos ⟨by rw [List.length_cons]; omega, hr⟩, he]; rfl
theorem frac_nil {r : Nat} : (fracL 4 r = []) ↔ r = 0 := by
  rw [fracL]
  split <;> simp_all
theorem tex_str (x : Int) : texL x = (if x < 0 then [45] else []) ++ strD (Lib.decDigits (x.natAbs / 10000)) (fracL 4 (x.natAbs % 10000)) := by
  unfold texL strD fracS
  rw [List.append_assoc]
  by_cases h : x.natAbs % 10000 = 0
  · rw [if_pos h, if_pos (frac_nil.2 h)]
  · rw [if_neg h, if_neg (fun hh => h (frac_nil.1 hh))]
theorem tex_tot (n : Nat) : valL (Lib.decDigits (n / 10000)) 0 * 10000 + valL (fracL 4 (n % 10000)) 0 * 10 ^ (4 - (fracL 4 (n % 10000)).length) = n := by
  rw [dd_val, frac_val 4 (n % 10000) 0 (by decide) (by omega) (by simp; omega)]
  simp
  omega
theorem dd_len16 {x : Int} (h : May x) (hx : I64 x) : (Lib.decDigits (x.natAbs / 10000)).length ≤ 15 := dd_len 14 _ (by unfold May at h; unfold I64 at hx; omega)
theorem read_tex {x : Int} (h : May x) (hx : I64 x) : readL (texL x) = (x, true) := by
  have hl := dd_len16 h hx
  have hm : ((x.natAbs : Nat) : Int) ≤ 9223372036854775807 := by unfold May at h; unfold I64 at hx; omega
  obtain ⟨h1, h2⟩ := read_str (dd_all _) (dd_ne _) (frac_all 4 (x.natAbs % 10000) (by omega)) (frac_len 4 _) (by omega) (tex_tot x.natAbs) hm
  rw [tex_str]
  by_cases h0 : x < 0
  · rw [if_pos h0, List.singleton_append, h2, show -((x.natAbs : Nat) : Int) = x by omega]
  · rw [if_neg h0, List.nil_append, h1, show ((x.natAbs : Nat) : Int) = x by omega]
theorem read_texS {x : Int} (hx : I64 x) : readL (texS x) = (if May x then (x, true) else (0, false)) := by
  unfold texS
  split
  · exact read_tex (by assumption) hx
  · decide
def parseL (l : List UInt8) : Int × Bool := if (readL l).2 = true ∧ texS (readL l).1 = l then ((readL l).1, true) else (0, false)
theorem read_ok {l : List UInt8} : I64 (readL l).1 ∧ ((readL l).2 = true → May (readL l).1) := by
  unfold readL
  by_cases hh : l.length ≤ 40 ∧ rightL (cutL (bodyL l))
  · rw [if_pos hh]
    have := hh.2.2.2.2
    generalize totL (cutL (bodyL l)) = t at *
    unfold I64 May
    dsimp only
    split <;> omega
  · rw [if_neg hh]
    unfold I64
    exact ⟨by dsimp only; omega, fun h => by cases h⟩
theorem parse_texS {x : Int} (hx : I64 x) : parseL (texS x) = (if May x then (x, true) else (0, false)) := by
  unfold parseL
  rw [read_texS hx]
  by_cases h : May x
  · rw [if_pos h, if_pos ⟨rfl, rfl⟩]
  · rw [if_neg h, if_neg (fun hh => by cases hh.1)]
end Go.Den
/- Decimals as texts: what the program's functions, and the reference's digits, answer. -/
set_option linter.unusedVariables false
set_option linter.unusedSimpArgs false
set_option maxRecDepth 100000
namespace Go.Den.EC
open Go Go.Proofs
def pvG (g : Int × Bool) : PV := .tup [.sc (.int .i64 g.1), .sc (.bool g.2)]
theorem pvG_sh (g : Int × Bool) : hasSh (.tup [(.int .i64), .bool]) (pvG g) = true := rfl
theorem pvG_0 (g : Int × Bool) : (cel 0 (pvG g).parts).toInt = g.1 := rfl
theorem pvG_1 (g : Int × Bool) : (cel 1 (pvG g).parts).toBool = g.2 := rfl
theorem pvG_fold (a : Int) (b : Bool) : PV.tup [.sc (.int .i64 a), .sc (.bool b)] = pvG (a, b) := rfl
theorem may_ev {x : Int} (h : I64 x) : D 106 [.sc (.int .i64 x)] = some (.sc (.bool (decide (May x)))) := by
  rw [f106_eq 0]
  congr 3
  rw [Bool.eq_iff_iff, bne_iff_ne, decide_eq_true_iff]
  unfold I64 at h
  unfold May; omega
theorem units_ev {x : Int} (h : I64 x) : D 108 [.sc (.int .i64 x)] = some (.sc (.int .i64 (if May x then x.tdiv 10000 else 0))) := by
  rw [f108_eq 0]
  refine cb (may_ev h) rfl ?_
  simp only [tb]
  have t := tdm x (m := 10000) (by decide)
  unfold I64 at h
  by_cases hm : May x
  · rw [if_pos hm, decide_eq_true hm]
    refine im (by decide) ?_
    rw [w64 (by omega) (by omega)]
  · rw [if_neg hm, decide_eq_false hm]
    exact ip (by decide) rfl
theorem format_ev {n : Int} (h : I64 n) : D 107 [.sc (.int .i64 n), .sc (.int .i64 10)] = some (.sc (.string (B (Lib.itoa n)))) := by
  have e : D 107 [.sc (.int .i64 n), .sc (.int .i64 10)] = xFormatInt [.sc (.int .i64 n), .sc (.int .i64 10)] := (denI_eq 0 _ _).trans (by kernel_rfl)
  rw [e]
  unfold xFormatInt
  exact if_pos ⟨rfl, h.1, h.2⟩
theorem trimr_ev {l : List UInt8} (h : l.length ≤ 1000000) : D 109 [.sc (.string (B l)), .sc (.string (⟨#[48]⟩ : ByteArray))] = some (.sc (.string (B (Lib.trimRightB l 48)))) := by
  have e : D 109 [.sc (.string (B l)), .sc (.string (⟨#[48]⟩ : ByteArray))] = xTrimRight [.sc (.string (B l)), .sc (.string (⟨#[48]⟩ : ByteArray))] := (denI_eq 0 _ _).trans (by kernel_rfl)
  rw [e]
  unfold xTrimRight
  exact if_pos ⟨rfl, by decide, by rw [B_size]; omega⟩
theorem text_j {x : Int} (h : May x) {l : List UInt8} (hl : l.length ≤ 17) : f64.j0a 0 x (B l) = some (.sc (.string (B (l ++ fracS (x.natAbs % 10000))))) := by
  rw [f64.j0a_eq]
  have e := rest_of h
  have hr : x.natAbs % 10000 < 10000 := Nat.mod_lt _ (by decide)
  generalize x.natAbs % 10000 = r at *
  have em : IntKind.i64.wrap ((10000 : Int) + (if IntKind.i64.wrap (0 - (x.tmod 10000)) > x.tmod 10000 then IntKind.i64.wrap (0 - (x.tmod 10000)) else x.tmod 10000)) = ((10000 + r : Nat) : Int) := by
    rw [e]
    split
    · rw [w64 (x := 0 - -(r : Int)) (by omega) (by omega)]
      rw [w64 (by split <;> omega) (by split <;> omega)]
      split <;> omega
    · rw [w64 (x := 0 - (r : Int)) (by omega) (by omega)]
      rw [w64 (by split <;> omega) (by split <;> omega)]
      split <;> omega
  unfold fracS
  by_cases h0 : r = 0
  · refine ip (by rw [e, h0]; split <;> rfl) ?_
    rw [if_pos h0, List.append_nil]
  · refine im (by rw [e, beq_iff_eq]; split <;> omega) ?_
    rw [em, if_neg h0]
    refine cb (format_ev (by unfold I64; omega)) rfl ?_
    rw [itoa_nat, four hr]
    simp only [ts]
    refine ip (by rw [B_size]; exact Int.natCast_nonneg _) (ip (Int.le_refl _) (ip (by rw [B_size]; simp) (ip (by rw [B_size]; omega) ?_)))
    rw [B_extract]
    refine cb (trimr_ev (by rw [List.length_take, List.length_drop]; simp only [List.length_cons, List.length_nil]; omega)) rfl ?_
    rw [show (List.take (((B [49, dc (r / 1000), dc (r / 100 % 10), dc (r / 10 % 10), dc (r % 10)]).size : Int).toNat - 1) (List.drop 1 [49, dc (r / 1000), dc (r / 100 % 10), dc (r / 10 % 10), dc (r % 10)])) = [dc (r / 1000), dc (r / 100 % 10), dc (r / 10 % 10), dc (r % 10)] from rfl, trim_eq hr h0]
    have hf : (fracL 4 r).length ≤ 4 := frac_len 4 r
    have e46 : (⟨#[46]⟩ : ByteArray) = B [46] := rfl
    refine ip (by simp only [ts, e46, B_append, B_size]; simp; omega) ?_
    simp only [ts, e46, B_append]
    rw [List.append_assoc]
    rfl
theorem text_ev {x : Int} (hx : I64 x) : D 64 [.sc (.int .i64 x)] = some (.sc (.string (B (texS x)))) := by
  rw [f64_eq 0]
  refine cb (may_ev hx) rfl ?_
  simp only [tb]
  unfold texS
  by_cases h : May x
  · rw [if_pos h, decide_eq_true h]
    have hm := h
    unfold May at hm
    have t := tdm x (m := 10000) (by decide)
    refine im (by decide) (cb (units_ev hx) rfl ?_)
    rw [if_pos h]
    simp only [ti]
    refine cb (format_ev (by unfold I64 at *; omega)) rfl ?_
    have hl := head_len h
    unfold texL
    simp only [bA, tb, ts]
    by_cases h0 : x < 0
    · rw [if_pos h0] at hl ⊢
      by_cases h1 : x > -10000
      · rw [show x.tdiv 10000 = ((0 : Nat) : Int) by omega, itoa_nat, show x.natAbs / 10000 = 0 by omega]
        rw [show x.natAbs / 10000 = 0 by omega] at hl
        refine ip (by simp; omega) (ip (by rw [B_size]; simp at hl ⊢; omega) ?_)
        rw [show (⟨#[45]⟩ : ByteArray) = B [45] from rfl, B_append]
        exact text_j h hl
      · have hq : 0 < x.natAbs / 10000 := by omega
        rw [show x.tdiv 10000 = -((x.natAbs / 10000 : Nat) : Int) by omega, itoa_neg hq]
        refine im (by simp; omega) ?_
        exact text_j h hl
    · rw [if_neg h0] at hl ⊢
      rw [show x.tdiv 10000 = ((x.natAbs / 10000 : Nat) : Int) by omega, itoa_nat]
      refine im (by simp; omega) ?_
      exact text_j h hl
  · rw [if_neg h, decide_eq_false h]
    exact ip (by decide) rfl
/-- A count's text. -/
theorem count_ev {n : Int} (h0 : 0 ≤ n) (h1 : n ≤ 1000000000) : D 64 [.sc (.int .i64 (IntKind.i64.wrap (n * 10000)))] = some (.sc (.string (B (Lib.decDigits n.toNat)))) := by
  rw [w64 (by omega) (by omega), text_ev (by unfold I64; omega)]
  unfold texS
  rw [if_pos (by unfold May; omega)]
  unfold texL fracS
  rw [if_neg (by omega), if_pos (by omega), List.append_nil, List.nil_append, show (n * 10000).natAbs / 10000 = n.toNat by omega]
theorem digit_str (n : Nat) : bytesOf [PV.sc (.int .u8 (IntKind.u8.wrap (IntKind.i64.wrap ((48 : Int) + ((n : Int).tmod 10)))))] = B [dc (n % 10)] := by
  have e : Int.tmod (n : Int) 10 = ((n % 10 : Nat) : Int) := by rw [Int.tmod_eq_emod_of_nonneg (by omega)]; omega
  have h : n % 10 < 10 := Nat.mod_lt _ (by decide)
  have e8 : IntKind.u8.wrap ((48 + n % 10 : Nat) : Int) = ((48 + n % 10 : Nat) : Int) := by
    simp [IntKind.wrap, IntKind.bits, IntKind.signed]; omega
  rw [e, w64 (by omega) (by omega), show ((48 : Int) + ((n % 10 : Nat) : Int)) = ((48 + n % 10 : Nat) : Int) by omega, e8]
  rfl
theorem tens (n : Nat) (h : (n : Int) ≤ 9223372036854775807) : IntKind.i64.wrap (Int.tdiv (n : Int) 10) = ((n / 10 : Nat) : Int) := by
  rw [Int.tdiv_eq_ediv_of_nonneg (by omega), w64 (by omega) (by omega)]
  omega
theorem digits_l (d : Nat) : ∀ (n : Nat) (l : List UInt8), n < 10 ^ d → (n : Int) ≤ 9223372036854775807 → l.length + d ≤ 100 → f77.l0a 0 (n : Int) (B l) = some (.sc (.string (B (dg n ++ l)))) := by
  induction d with
  | zero =>
    intro n l h _ hl
    obtain rfl : n = 0 := by simpa using h
    rw [f77.l0a_eq]
    exact im (by decide) rfl
  | succ d ih =>
    intro n l h hu hl
    rw [f77.l0a_eq]
    by_cases h0 : n = 0
    · subst h0
      exact im (by decide) rfl
    · refine ip (by rw [decide_eq_true_eq]; omega) (ip rfl ?_)
      rw [digit_str, B_append, B_size, B_size, tens n hu]
      refine ip (by simp; omega) ?_
      have := ih (n / 10) ([dc (n % 10)] ++ l) (by rw [Nat.pow_succ] at h; omega) (by omega) (by simp; omega)
      rw [← List.append_assoc, dg_step] at this
      rw [show dg n = Lib.decDigits n from if_neg h0]
      exact this
theorem digits_ev {n : Int} (h0 : 0 ≤ n) (h1 : n ≤ 1000000000000000000) : D 77 [.sc (.int .i64 n)] = some (.sc (.string (B (Lib.decDigits n.toNat)))) := by
  obtain ⟨m, rfl⟩ : ∃ m : Nat, n = m := ⟨n.toNat, by omega⟩
  rw [f77_eq 0]
  refine ip rfl ?_
  rw [digit_str, tens m (by omega)]
  have := digits_l 20 (m / 10) [dc (m % 10)] (by omega) (by omega) (by simp)
  rw [dg_step] at this
  exact this
end Go.Den.EC
/- Values: whether they may be, what is made, how they turn. -/
set_option linter.unusedVariables false
set_option linter.unusedSimpArgs false
set_option maxRecDepth 100000
namespace Go.Den.EC
open Go Go.Proofs
structure Vl where
  kind : Int
  num : Int
  text : ByteArray
def Vl.pv (v : Vl) : PV := .agg [.sc (.int .i64 v.kind), .sc (.int .i64 v.num), .sc (.string v.text)]
@[simp] theorem Vl.sh (v : Vl) : hasSh (.agg [(.int .i64), (.int .i64), .str]) v.pv = true := rfl
@[simp] theorem Vl.c0 (v : Vl) : (cel 0 v.pv.cells).toInt = v.kind := rfl
@[simp] theorem Vl.c1 (v : Vl) : (cel 1 v.pv.cells).toInt = v.num := rfl
@[simp] theorem Vl.c2 (v : Vl) : (cel 2 v.pv.cells).toStr = v.text := rfl
theorem Vl.fold (k n : Int) (t : ByteArray) : PV.agg [.sc (.int .i64 k), .sc (.int .i64 n), .sc (.string t)] = (Vl.mk k n t).pv := rfl
theorem Vl.rb (v : Vl) : Vl.mk v.kind v.num v.text = v := rfl
abbrev E : ByteArray := ⟨#[]⟩
def em (t : ByteArray) : Bool := t.toList == E.toList
def mayV (v : Vl) : Bool :=
  if v.kind = 0 then v.num == 0 && em v.text else if v.kind = 1 then v.num != -9223372036854775808 && em v.text else if v.kind = 2 then v.num == 0 && decide ((v.text.size : Int) ≤ 256)
  else if v.kind = 3 then (v.num == 0 || v.num == 1) && em v.text else if v.kind = 4 then (decide (v.num ≥ 1) && decide (v.num ≤ 7)) && em v.text else false
theorem em_fold (t : ByteArray) : (t.toList == (⟨#[]⟩ : ByteArray).toList) = em t := rfl
theorem vmay_ev (v : Vl) : D 134 [v.pv] = some (.sc (.bool (mayV v))) := by
  obtain ⟨k, n, t⟩ := v
  unfold Vl.pv
  simp only []
  rw [f134_eq 0, f106_eq 0]
  simp only [em_fold, mayV]
  by_cases h0 : k = 0
  · subst h0
    by_cases h1 : n = 0 <;> simp [h1]
  by_cases h1 : k = 1
  · subst h1
    cases hb : (n != -9223372036854775808) <;> simp [hb]
  by_cases h2 : k = 2
  · subst h2
    by_cases h1 : n = 0 <;> simp [h1]
  by_cases h3 : k = 3
  · subst h3
    by_cases h1 : n = 0
    · simp [h1]
    · by_cases h2 : n = 1 <;> simp [h1, h2]
  by_cases h4 : k = 4
  · subst h4
    by_cases h1 : 1 ≤ n
    · by_cases h2 : n ≤ 7 <;> simp [h1, h2]
    · simp [h1]
  simp [h0, h1, h2, h3, h4]
theorem vrmay_ev (v : Vl) (h : -9223372036854775808 ≤ v.num) : D 9 [v.pv] = some (.sc (.bool (mayV v))) := by
  obtain ⟨k, n, t⟩ := v
  unfold Vl.pv
  simp only [] at h ⊢
  rw [f9_eq 0, f56_eq 0]
  simp only [em_fold, mayV]
  by_cases h0 : k = 0
  · subst h0
    cases em t <;> by_cases h1 : n = 0 <;> simp [h1]
  by_cases h1 : k = 1
  · subst h1
    have e : (n != -9223372036854775808) = decide (n ≥ -9223372036854775807) := by
      by_cases h2 : n = -9223372036854775808
      · subst h2; decide
      · have : n ≥ -9223372036854775807 := by omega
        simp [h2, this]
    rw [e]
    cases em t <;> by_cases h1 : -9223372036854775807 ≤ n <;> simp [h1]
  by_cases h2 : k = 2
  · subst h2
    by_cases h1 : n = 0 <;> by_cases h3 : (t.size : Int) ≤ 256 <;> simp [h1, h3]
  by_cases h3 : k = 3
  · subst h3
    by_cases h1 : n = 0
    · cases em t <;> simp [h1]
    · by_cases h2 : n = 1 <;> cases em t <;> simp [h1, h2]
  by_cases h4 : k = 4
  · subst h4
    by_cases h1 : 1 ≤ n
    · by_cases h2 : n ≤ 7 <;> cases em t <;> simp [h1, h2]
    · cases em t <;> simp [h1]
  simp [h0, h1, h2, h3, h4]
def madeV (v : Vl) (c : Int) : Vl := if mayV v then v else ⟨4, c, E⟩
theorem made_ev (v : Vl) (c : Int) : D 99 [v.pv, .sc (.int .i64 c)] = some (madeV v c).pv := by
  have h := vmay_ev v
  obtain ⟨k, n, t⟩ := v
  have e := f99_eq 0 k n t c
  simp only [Vl.fold] at e
  rw [e, h]
  unfold madeV
  cases mayV ⟨k, n, t⟩ <;> simp
def numV (x : Int) : Vl := madeV ⟨1, x, E⟩ 4
def strV (t : ByteArray) : Vl := madeV ⟨2, 0, t⟩ 2
def boolV (b : Bool) : Vl := ⟨3, if b then 1 else 0, E⟩
def badV (c : Int) : Vl := madeV ⟨4, c, E⟩ 2
theorem num_ev (x : Int) : D 58 [.sc (.int .i64 x)] = some (numV x).pv := by
  rw [f58_eq 0]; simp only [Vl.fold]; rw [made_ev]; simp [Vl.rb]; rfl
theorem str_ev (t : ByteArray) : D 57 [.sc (.string t)] = some (strV t).pv := by
  rw [f57_eq 0]; simp only [Vl.fold]; rw [made_ev]; simp [Vl.rb]; rfl
def gotV (x : Int) (b : Bool) : Vl := if b then numV x else badV 4
theorem em_E : em E = true := by simp [em]
theorem bad_4 : badV 4 = ⟨4, 4, E⟩ := by simp [badV, madeV, mayV, em_E]
theorem bad_2 : badV 2 = ⟨4, 2, E⟩ := by simp [badV, madeV, mayV, em_E]
theorem made_may (v : Vl) (c : Int) (h0 : 1 ≤ c) (h1 : c ≤ 7) : mayV (madeV v c) = true := by
  unfold madeV
  cases h : mayV v
  · simp [mayV, em_E, h0, h1]
  · simp [h]
theorem num_may (x : Int) : mayV (numV x) = true := made_may _ _ (by decide) (by decide)
theorem str_may (t : ByteArray) : mayV (strV t) = true := made_may _ _ (by decide) (by decide)
theorem bad_may (c : Int) : mayV (badV c) = true := made_may _ _ (by decide) (by decide)
theorem bool_may (b : Bool) : mayV (boolV b) = true := by cases b <;> simp [mayV, boolV, em_E]
theorem got_may (x : Int) (b : Bool) : mayV (gotV x b) = true := by
  unfold gotV; cases b
  · exact bad_may _
  · exact num_may _
def faultT (c : Int) : ByteArray := if c = 1 then ⟨#[35, 68, 73, 86]⟩ else if c = 2 then ⟨#[35, 86, 65, 76, 85, 69]⟩ else if c = 3 then ⟨#[35, 82, 69, 70]⟩ else if c = 4 then ⟨#[35, 78, 85, 77]⟩ else if c = 5 then ⟨#[35, 78, 65]⟩ else if c = 6 then ⟨#[35, 65, 85, 84, 72]⟩ else if c = 7 then ⟨#[35, 67, 89, 67, 76, 69]⟩ else E
theorem fault_ev (c : Int) : D 71 [.sc (.int .i64 c)] = some (.sc (.string (faultT c))) := by
  rw [f71_eq 0]
  unfold faultT
  simp only [beq_iff_eq]
  repeat' split
  all_goals rfl
theorem rfault_ev (c : Int) : D 72 [.sc (.int .i64 c)] = some (.sc (.string (faultT c))) := by
  by_cases h : 1 ≤ c ∧ c ≤ 7
  · have : c = 1 ∨ c = 2 ∨ c = 3 ∨ c = 4 ∨ c = 5 ∨ c = 6 ∨ c = 7 := by omega
    rcases this with rfl | rfl | rfl | rfl | rfl | rfl | rfl <;> exact denI_of (k := 20) (by kernel_rfl)
  · rw [f72_eq 0]
    unfold faultT
    by_cases h1 : c < 1
    · have a : ¬ c = 1 := by omega
      have a2 : ¬ c = 2 := by omega
      have a3 : ¬ c = 3 := by omega
      have a4 : ¬ c = 4 := by omega
      have a5 : ¬ c = 5 := by omega
      have a6 : ¬ c = 6 := by omega
      have a7 : ¬ c = 7 := by omega
      simp only [h1, a, a2, a3, a4, a5, a6, a7]; rfl
    · have b : c > 7 := by omega
      have a : ¬ c = 1 := by omega
      have a2 : ¬ c = 2 := by omega
      have a3 : ¬ c = 3 := by omega
      have a4 : ¬ c = 4 := by omega
      have a5 : ¬ c = 5 := by omega
      have a6 : ¬ c = 6 := by omega
      have a7 : ¬ c = 7 := by omega
      simp only [h1, b, a, a2, a3, a4, a5, a6, a7]; rfl
theorem em_iff {t : ByteArray} : em t = true ↔ t = E := by
  unfold em
  rw [beq_iff_eq]
  constructor
  · intro h
    obtain ⟨l, rfl⟩ := B_of t
    rw [B_toList, show E = B [] from rfl, B_toList] at h
    rw [h]; rfl
  · rintro rfl; rfl
def truthT (n : Int) : ByteArray := if n = 1 then ⟨#[84, 82, 85, 69]⟩ else ⟨#[70, 65, 76, 83, 69]⟩
/-- A value's text, of one that is no fault. -/
def wordsV (v : Vl) : ByteArray := if v.kind = 1 then B (texS v.num) else if v.kind = 3 then truthT v.num else if v.kind = 0 then E else v.text
def asTextV (v : Vl) : Vl := if v.kind = 0 then strV E else if v.kind = 3 then strV (truthT v.num) else if v.kind = 1 then strV (B (texS v.num)) else v
theorem truth_ev (v : Vl) : D 63 [v.pv] = some (.sc (.string (truthT v.num))) := by
  obtain ⟨k, n, t⟩ := v
  refine (f63_eq 0 k n t).trans ?_
  unfold truthT
  by_cases h : n = 1
  · rw [if_pos (by simp [h]), if_pos h]
  · rw [if_neg (by simp [h]), if_neg h]
theorem asText_ev (v : Vl) (h : I64 v.num) : D 12 [v.pv] = some (asTextV v).pv := by
  have ht := truth_ev v
  obtain ⟨k, n, t⟩ := v
  refine (f12_eq 0 k n t).trans ?_
  simp only [Vl.fold] at ht ⊢
  unfold asTextV
  dsimp only at h ht ⊢
  by_cases h0 : k = 0
  · refine ip (by simp [h0]) (cb (str_ev _) rfl ?_)
    rw [if_pos h0]
    simp only [Vl.c0, Vl.c1, Vl.c2, Vl.rb]
  refine im (by simp [h0]) ?_
  rw [if_neg h0]
  by_cases h3 : k = 3
  · refine ip (by simp [h3]) (cb ht rfl (cb (str_ev _) rfl ?_))
    rw [if_pos h3]
    simp only [Vl.c0, Vl.c1, Vl.c2, Vl.rb, ts]
  refine im (by simp [h3]) ?_
  rw [if_neg h3]
  by_cases h1 : k = 1
  · refine ip (by simp [h1]) (cb (text_ev h) rfl (cb (str_ev _) rfl ?_))
    rw [if_pos h1]
    simp only [Vl.c0, Vl.c1, Vl.c2, Vl.rb, ts]
  · refine im (by simp [h1]) ?_
    rw [if_neg h1]
def truT : ByteArray := ⟨#[84, 82, 85, 69]⟩
def falT : ByteArray := ⟨#[70, 65, 76, 83, 69]⟩
def isT (t u : ByteArray) : Bool := t.toList == u.toList
def asTruthV (v : Vl) : Vl := if v.kind = 0 then boolV false else if v.kind = 1 then boolV (v.num != 0) else if v.kind = 2 then (if (isT v.text truT || isT v.text falT) = true then boolV (isT v.text truT) else badV 2) else v
theorem isT_E : isT E truT = false := by
  show ((B []).toList == (B [84, 82, 85, 69]).toList) = false
  rw [B_toList, B_toList]; rfl
end Go.Den.EC
/- Decimals as texts: which decimal a text means. -/
set_option linter.unusedVariables false
set_option linter.unusedSimpArgs false
set_option maxRecDepth 100000
namespace Go.Den.EC
open Go Go.Proofs
theorem w64h {x : Int} (h0 : 9223372036854775807 < x) (h1 : x ≤ 18446744073709551615) : IntKind.i64.wrap x = x - 18446744073709551616 := by
  simp [IntKind.wrap, IntKind.bits, IntKind.signed]; omega
theorem w64l {x : Int} (h0 : -18446744073709551616 ≤ x) (h1 : x < -9223372036854775808) : IntKind.i64.wrap x = x + 18446744073709551616 := by
  simp [IntKind.wrap, IntKind.bits, IntKind.signed]; omega
theorem add_ev {a b : Int} (ha : I64 a) (hb : I64 b) : D 138 [.sc (.int .i64 a), .sc (.int .i64 b)] = some (pvG (addS a b)) := by
  have hw : I64 (IntKind.i64.wrap (a + b)) := by
    unfold I64 at ha hb ⊢
    by_cases h1 : 9223372036854775807 < a + b
    · rw [w64h h1 (by omega)]; omega
    · by_cases h2 : a + b < -9223372036854775808
      · rw [w64l (by omega) h2]; omega
      · rw [w64 (by omega) (by omega)]; omega
  rw [f138_eq 0]
  simp only [may_ev ha, may_ev hb, may_ev hw, bs, shb, if_true, tb, bA, bO]
  unfold I64 at ha hb
  unfold addS
  by_cases h1 : 9223372036854775807 < a + b
  · rw [if_neg (by unfold May; omega)]
    refine ip ?_ rfl
    rw [w64h h1 (by omega)]
    simp only [Bool.or_eq_true, Bool.not_eq_true', Bool.and_eq_true, decide_eq_true_eq, decide_eq_false_iff_not]
    simp only [May]
    omega
  · by_cases h2 : a + b < -9223372036854775808
    · rw [if_neg (by unfold May; omega)]
      refine ip ?_ rfl
      rw [w64l (by omega) h2]
      simp only [Bool.or_eq_true, Bool.not_eq_true', Bool.and_eq_true, decide_eq_true_eq, decide_eq_false_iff_not]
      simp only [May]
      omega
    · simp only [w64 (x := a + b) (by omega) (by omega)]
      by_cases h3 : May a ∧ May b ∧ May (a + b)
      · rw [if_pos h3]
        refine im ?_ rfl
        simp only [Bool.or_eq_true, Bool.not_eq_true', Bool.and_eq_true, decide_eq_true_eq, decide_eq_false_iff_not] at h3 ⊢
        simp only [May] at h3 ⊢
        omega
      · rw [if_neg h3]
        refine ip ?_ rfl
        simp only [Bool.or_eq_true, Bool.not_eq_true', Bool.and_eq_true, decide_eq_true_eq, decide_eq_false_iff_not] at h3 ⊢
        simp only [May] at h3 ⊢
        omega
theorem neg_ev {a : Int} (ha : I64 a) : D 140 [.sc (.int .i64 a)] = some (pvG (negS a)) := by
  rw [f140_eq 0]
  refine cb (may_ev ha) rfl ?_
  simp only [tb]
  unfold negS
  by_cases h : May a
  · rw [if_pos h, decide_eq_true h]
    refine im (by decide) ?_
    unfold May at h
    rw [w64 (by omega) (by omega), Int.zero_sub]
    rfl
  · rw [if_neg h, decide_eq_false h]
    exact ip (by decide) rfl
theorem size_ev {x : Int} (h0 : 0 ≤ x) (h1 : x ≤ 9223372036854775807) : D 167 [.sc (.int .i64 x)] = some (.sc (.int .u64 x)) := by
  rw [f167_eq 0]
  refine im (by rw [decide_eq_true_eq]; omega) ?_
  rw [u64i h0 (by omega)]
theorem sign_ev {x : Int} (h0 : 0 ≤ x) : D 101 [.sc (.int .i64 x)] = some (.sc (.int .i64 (if x = 0 then 0 else 1))) := by
  rw [f101_eq 0]
  refine im (by rw [decide_eq_true_eq]; omega) ?_
  by_cases h : x = 0
  · rw [if_pos h]; exact im (by rw [decide_eq_true_eq]; omega) rfl
  · rw [if_neg h]; exact ip (by rw [decide_eq_true_eq]; omega) rfl
def pvU (a b : Int) : PV := .tup [.sc (.int .u64 a), .sc (.int .u64 b)]
theorem mul64_ev (a b : Int) (ha0 : 0 ≤ a) (ha : a < 18446744073709551616) (hb0 : 0 ≤ b) (hb : b < 18446744073709551616) :
    D 168 [.sc (.int .u64 a), .sc (.int .u64 b)] = some (pvU (a * b / 18446744073709551616) (a * b % 18446744073709551616)) := by
  obtain ⟨p11, p10, p01, p00, e11, e10, e01, e00, h11, h10, h01, h00, e⟩ := mul64_math ha0 ha hb0 hb
  rw [f168_eq 0]
  have ea : a.fdiv 4294967296 = a / 4294967296 := Int.fdiv_eq_ediv_of_nonneg _ (by decide)
  have eb : b.fdiv 4294967296 = b / 4294967296 := Int.fdiv_eq_ediv_of_nonneg _ (by decide)
  rw [and32 ha0 ha, and32 hb0 hb, ea, eb, ← e11, ← e10, ← e01, ← e00, u64i (x := p11) (by omega) (by omega), u64i (x := p10) (by omega) (by omega), u64i (x := p01) (by omega) (by omega), u64i (x := p00) (by omega) (by omega)]
  have e0 : p00.fdiv 4294967296 = p00 / 4294967296 := Int.fdiv_eq_ediv_of_nonneg _ (by decide)
  rw [e0, u64i (x := p10 + p00 / 4294967296) (by omega) (by omega), and32 (by omega) (by omega), u64w (a * b)]
  rw [u64i (x := (p10 + p00 / 4294967296) % 4294967296 + p01) (by omega) (by omega)]
  have e1 : (p10 + p00 / 4294967296).fdiv 4294967296 = (p10 + p00 / 4294967296) / 4294967296 := Int.fdiv_eq_ediv_of_nonneg _ (by decide)
  have e2 : ((p10 + p00 / 4294967296) % 4294967296 + p01).fdiv 4294967296 = ((p10 + p00 / 4294967296) % 4294967296 + p01) / 4294967296 := Int.fdiv_eq_ediv_of_nonneg _ (by decide)
  rw [e1, e2, u64w, u64w]
  unfold pvU
  congr 6
  omega
theorem div64_ev {lo : Int} (h0 : 0 ≤ lo) (h1 : lo < 18446744073709551616) : D 169 [.sc (.int .u64 0), .sc (.int .u64 lo), .sc (.int .u64 1)] = some (pvU lo 0) := by
  rw [f169_eq 0]
  refine im (by decide) ?_
  rw [f169.j0a_eq]
  refine im (by decide) ?_
  rw [f169.j1a_eq]
  refine ip (by decide) (ip (by decide) (ip (by decide) ?_))
  rw [Int.tdiv_one, Int.tmod_one, u64i h0 h1]
  rfl
theorem scaled_ev {a b : Int} (ha0 : 0 ≤ a) (ha : a ≤ 9223372036854775807) (hb0 : 0 < b) (hb : b ≤ 9223372036854775807) : D 137 [.sc (.int .i64 a), .sc (.int .i64 b), .sc (.int .i64 1)] = some (pvG (mulS a b)) := by
  have ma : May a := by unfold May; omega
  have mb : May b := by unfold May; omega
  have m1 : May 1 := by decide
  rw [f137_eq 0]
  simp only [may_ev (show I64 a by unfold I64; omega), may_ev (show I64 b by unfold I64; omega), may_ev (show I64 1 by unfold I64; omega), decide_eq_true ma, decide_eq_true mb, decide_eq_true m1, bs, shb, if_true, tb, bA, bO]
  refine im (by decide) (cb (size_ev (by decide) (by decide)) rfl (cb (size_ev ha0 ha) rfl (cb (size_ev (by omega) hb) rfl ?_)))
  simp only [ti]
  refine cb (mul64_ev a b ha0 (by omega) (by omega) (by omega)) rfl ?_
  show (if decide (a * b / 18446744073709551616 ≥ 1) = true then _ else _) = _
  have hp : 0 ≤ a * b := Int.mul_nonneg ha0 (by omega)
  have hq : a * b / 18446744073709551616 ≥ 0 := Int.ediv_nonneg hp (by decide)
  by_cases ho : a * b / 18446744073709551616 ≥ 1
  · refine ip (decide_eq_true ho) ?_
    rw [mulS_no (by unfold May; omega)]; rfl
  · refine im (by rw [decide_eq_true_eq]; exact ho) ?_
    have e0 : a * b / 18446744073709551616 = 0 := by omega
    have e1 : a * b % 18446744073709551616 = a * b := by omega
    rw [e0, e1]
    have hd := div64_ev (lo := a * b) hp (by omega)
    refine cb (x := pvU (a * b) 0) hd rfl ?_
    show (if decide ((0 : Int) ≥ IntKind.u64.wrap (1 - 0)) = true then _ else _) = _
    refine im (by decide) ?_
    show f137.j0a 0 a b 1 (a * b) = _
    rw [f137.j0a_eq]
    by_cases hm : a * b > 9223372036854775807
    · refine ip (decide_eq_true hm) ?_
      rw [mulS_no (by unfold May; omega)]; rfl
    · refine im (by rw [decide_eq_true_eq]; exact hm) (cb (sign_ev ha0) rfl (cb (sign_ev (by omega)) rfl (cb (sign_ev (by decide)) rfl ?_)))
      rw [mulS_yes ⟨ma, mb, by unfold May; omega⟩, w64 (x := a * b) (by omega) (by omega)]
      have hb1 : ¬ b = 0 := by omega
      by_cases hz : a = 0
      · simp only [ti, if_pos hz, if_neg hb1]
        exact im (by decide) rfl
      · simp only [ti, if_neg hz, if_neg hb1]
        exact im (by decide) rfl
theorem of_ev {x : Int} (h0 : 0 ≤ x) (h1 : x ≤ 9223372036854775807) : D 139 [.sc (.int .i64 x)] = some (pvG (mulS x 10000)) := by
  rw [f139_eq 0]
  exact cb (scaled_ev h0 h1 (by decide) (by decide)) rfl rfl
theorem number_l {w : List UInt8} (hw : w.length ≤ 1000000) (d : Nat) : ∀ (i n : Nat), i + d = w.length → (n : Int) ≤ 9223372036854775807 →
    f104.l0a 0 (B w) (n : Int) (w.length : Int) (i : Int) = some (pvG (if (w.drop i).all isD = true ∧ (valL (w.drop i) n : Int) ≤ 9223372036854775807 then ((valL (w.drop i) n : Int), w != []) else (0, false))) := by
  induction d with
  | zero =>
    intro i n h hn
    rw [f104.l0a_eq]
    refine im (by rw [decide_eq_true_eq]; omega) ?_
    rw [List.drop_eq_nil_of_le (by omega), if_pos ⟨rfl, hn⟩, B_toList, show (⟨#[]⟩ : ByteArray).toList = [] from B_toList []]
    rfl
  | succ d ih =>
    intro i n h hn
    have hi : i < w.length := by omega
    rw [f104.l0a_eq]
    have c1 : (0 : Int) ≤ (i : Int) := by omega
    have c2 : (i : Int) < ((B w).size : Int) := by rw [B_size]; omega
    refine ip (by rw [decide_eq_true_eq]; omega) (ip c1 (ip c2 ?_))
    simp only [if_pos c1, if_pos c2, bs, tb, bO]
    have eb : bt (B w) (i : Int) = (w[i].toNat : Int) := B_bt hi
    rw [List.drop_eq_getElem_cons hi, List.all_cons, valL]
    simp only [eb]
    generalize hb : w[i] = b
    by_cases hd : isD b = true
    · have hd2 : 48 ≤ b.toNat ∧ b.toNat ≤ 57 := by unfold isD at hd; simpa using hd
      refine im (by rw [Bool.or_eq_true, decide_eq_true_eq, decide_eq_true_eq]; omega) ?_
      rw [hd, Bool.true_and]
      refine cb (scaled_ev (by omega) hn (by decide) (by decide)) rfl ?_
      have e8 : IntKind.i64.wrap (IntKind.u8.wrap ((b.toNat : Int) - 48)) = ((b.toNat - 48 : Nat) : Int) := by
        have : IntKind.u8.wrap ((b.toNat : Int) - 48) = ((b.toNat - 48 : Nat) : Int) := by
          simp [IntKind.wrap, IntKind.bits, IntKind.signed]; omega
        rw [this, w64 (by omega) (by omega)]
      rw [e8]
      have hge := valL_ge (w.drop (i + 1)) (n * 10 + (b.toNat - 48))
      have hd9 : b.toNat - 48 ≤ 9 := by omega
      generalize b.toNat - 48 = c at *
      have ei : IntKind.i64.wrap ((i : Int) + 1) = ((i + 1 : Nat) : Int) := by rw [w64 (by omega) (by omega)]; rfl
      rw [ei]
      have bad : ∀ g : Int × Bool, D 138 [.sc (.int .i64 ((cel 0 (pvG (mulS (n : Int) 10)).parts).toInt)), .sc (.int .i64 (c : Int))] = some (pvG g) → ((!(mulS (n : Int) 10).2) || (!g.2)) = true → ((D 138 [.sc (.int .i64 ((cel 0 (pvG (mulS (n : Int) 10)).parts).toInt)), .sc (.int .i64 (c : Int))]).bind fun r5 => if hasSh (.tup [(.int .i64), .bool]) r5 = true then
              if ((!((cel 1 (pvG (mulS (n : Int) 10)).parts).toBool)) || (!((cel 1 r5.parts).toBool))) = true then
                some (.tup [.sc (.int .i64 0), .sc (.bool false)])
              else
                f104.l0a 0 (B w) ((cel 0 r5.parts).toInt) (w.length : Int) ((i + 1 : Nat) : Int)
              else none) = some (pvG (0, false)) := by
        intro g hg hbad
        refine cb hg rfl ?_
        simp only [pvG_0, pvG_1, tb]
        exact ip hbad rfl
      by_cases h3 : (n : Int) * 10 ≤ 9223372036854775807
      · have em : mulS (n : Int) 10 = ((n : Int) * 10, true) := mulS_yes (a := (n : Int)) (b := 10) ⟨by unfold May; omega, by decide, by unfold May; omega⟩
        by_cases h4 : (n : Int) * 10 + (c : Int) ≤ 9223372036854775807
        · rw [em]
          refine cb (add_ev (by show I64 ((n : Int) * 10); unfold I64; omega) (by unfold I64; omega)) rfl ?_
          simp only [pvG_0, pvG_1, tb]
          have ea := addS_yes (a := (n : Int) * 10) (b := (c : Int)) ⟨by unfold May; omega, by unfold May; omega, by unfold May; omega⟩
          refine im (by rw [ea]; simp) ?_
          rw [ea]
          have := ih (i + 1) (n * 10 + c) (by omega) (by omega)
          rw [show ((n * 10 + c : Nat) : Int) = (n : Int) * 10 + (c : Int) by omega] at this
          exact this
        · rw [if_neg (fun hh => by omega)]
          refine bad _ (add_ev (by rw [pvG_0, em]; show I64 ((n : Int) * 10); unfold I64; omega) (by unfold I64; omega)) ?_
          rw [pvG_0, em, addS_no (by unfold May; omega)]; rfl
      · have em : mulS (n : Int) 10 = (0, false) := mulS_no (by unfold May; omega)
        rw [if_neg (fun hh => by omega)]
        refine bad _ (add_ev (by rw [pvG_0, em]; show I64 0; unfold I64; omega) (by unfold I64; omega)) ?_
        rw [em]; rfl
    · have hd2 : ¬ (48 ≤ b.toNat ∧ b.toNat ≤ 57) := by unfold isD at hd; simpa using hd
      refine ip (by rw [Bool.or_eq_true, decide_eq_true_eq, decide_eq_true_eq]; omega) ?_
      rw [if_neg (by rw [Bool.and_eq_true]; exact fun hh => hd hh.1.1)]
      rfl
theorem number_ev {w : List UInt8} (hw : w.length ≤ 1000000) : D 104 [.sc (.string (B w))] = some (pvG (numS w)) := by
  rw [f104_eq 0]
  have := number_l hw w.length 0 0 (Nat.zero_add _) (by decide)
  rw [List.drop_zero] at this
  rw [B_size]
  have e : numS w = (if w.all isD = true ∧ (valL w 0 : Int) ≤ 9223372036854775807 then ((valL w 0 : Int), w != []) else (0, false)) := by
    unfold numS
    by_cases h0 : w = []
    · subst h0; rfl
    · by_cases h1 : w.all isD = true ∧ (valL w 0 : Int) ≤ 9223372036854775807
      · rw [if_pos ⟨h0, h1⟩, if_pos h1, show (w != []) = true by simpa using h0]
      · rw [if_neg (fun hh => h1 hh.2), if_neg h1]
  rw [e]
  exact this
def putS (x y : Nat) (m : Bool) : Int × Bool := if ((x * 10000 + y : Nat) : Int) ≤ 9223372036854775807 then (if m = true then -((x * 10000 + y : Nat) : Int) else ((x * 10000 + y : Nat) : Int), true) else (0, false)
theorem put_ev {x y : Nat} (hx : (x : Int) ≤ 9223372036854775807) (hy : (y : Int) ≤ 9223372036854775807) (m : Bool) : D 105 [.sc (.int .i64 (x : Int)), .sc (.int .i64 (y : Int)), .sc (.bool m)] = some (pvG (putS x y m)) := by
  rw [f105_eq 0]
  refine cb (of_ev (by omega) hx) rfl ?_
  unfold putS
  by_cases h1 : (x : Int) * 10000 ≤ 9223372036854775807
  · have em : mulS (x : Int) 10000 = ((x : Int) * 10000, true) := mulS_yes (a := (x : Int)) (b := 10000) ⟨by unfold May; omega, by decide, by unfold May; omega⟩
    rw [em]
    refine cb (add_ev (by show I64 ((x : Int) * 10000); unfold I64; omega) (by unfold I64; omega)) rfl ?_
    simp only [bO]
    simp only [pvG_0, pvG_1, tb]
    by_cases h2 : ((x * 10000 + y : Nat) : Int) ≤ 9223372036854775807
    · have ea := addS_yes (a := (x : Int) * 10000) (b := (y : Int)) ⟨by unfold May; omega, by unfold May; omega, by unfold May; omega⟩
      rw [if_pos h2]
      refine im (by rw [ea]; simp) ?_
      rw [ea]
      rw [show (x : Int) * 10000 + (y : Int) = ((x * 10000 + y : Nat) : Int) by omega]
      cases m
      · exact im (by decide) rfl
      · refine ip rfl (cb (neg_ev (by unfold I64; omega)) rfl ?_)
        rw [show negS ((x * 10000 + y : Nat) : Int) = (-((x * 10000 + y : Nat) : Int), true) from if_pos (by unfold May; omega)]
        rfl
    · rw [if_neg h2]
      exact ip (by rw [addS_no (by unfold May; omega)]; decide) rfl
  · have em : mulS (x : Int) 10000 = (0, false) := mulS_no (by unfold May; omega)
    rw [em, if_neg (by omega)]
    refine cb (add_ev (by show I64 0; unfold I64; omega) (by unfold I64; omega)) rfl ?_
    simp only [bO]
    simp only [pvG_0, pvG_1, tb]
    exact ip (by simp) rfl
theorem read_l {x y : Nat} {m : Bool} (hx : (x : Int) ≤ 9223372036854775807) {e : Nat} (he : e ≤ 4) (hy : y * 10 ^ e ≤ 1000000) (d : Nat) : ∀ i : Nat, i + d = e →
    f62.l0a 0 m (x : Int) ((y * 10 ^ i : Nat) : Int) (e : Int) (i : Int) = some (pvG (putS x (y * 10 ^ e) m)) := by
  induction d with
  | zero =>
    intro i h
    obtain rfl : i = e := by omega
    rw [f62.l0a_eq]
    refine im (by rw [decide_eq_true_eq]; omega) ?_
    exact cb (put_ev hx (by omega) m) rfl rfl
  | succ d ih =>
    intro i h
    have hle : y * 10 ^ (i + 1) ≤ y * 10 ^ e := Nat.mul_le_mul_left _ (Nat.pow_le_pow_right (by decide) (by omega))
    have e1 : IntKind.i64.wrap (((y * 10 ^ i : Nat) : Int) * 10) = ((y * 10 ^ (i + 1) : Nat) : Int) := by
      have h2 : y * 10 ^ (i + 1) = y * 10 ^ i * 10 := by rw [pow_next, Nat.mul_assoc]
      generalize y * 10 ^ (i + 1) = q at *
      generalize y * 10 ^ i = p at *
      generalize y * 10 ^ e = z at *
      subst h2
      rw [w64 (by omega) (by omega)]
      omega
    rw [f62.l0a_eq]
    refine ip (by rw [decide_eq_true_eq]; omega) ?_
    rw [e1, w64 (x := (i : Int) + 1) (by omega) (by omega)]
    exact ih (i + 1) (by omega)
theorem cutp_ev (l : List UInt8) : D 84 [.sc (.string (B l)), .sc (.string (⟨#[45]⟩ : ByteArray))] = some (.tup [.sc (.string (B (bodyL l))), .sc (.bool (minusL l))]) := by
  have e : D 84 [.sc (.string (B l)), .sc (.string (⟨#[45]⟩ : ByteArray))] = xCutPrefix [.sc (.string (B l)), .sc (.string (⟨#[45]⟩ : ByteArray))] := (denI_eq 0 _ _).trans (by kernel_rfl)
  rw [e]; rfl
theorem cut_ev {l : List UInt8} (h : l.length ≤ 1000000) : D 103 [.sc (.string (B l)), .sc (.string (⟨#[46]⟩ : ByteArray))] = some (.tup [.sc (.string (B (cutL l).1)), .sc (.string (B (cutL l).2.1)), .sc (.bool (cutL l).2.2)]) := by
  have e : D 103 [.sc (.string (B l)), .sc (.string (⟨#[46]⟩ : ByteArray))] = xCut [.sc (.string (B l)), .sc (.string (⟨#[46]⟩ : ByteArray))] := (denI_eq 0 _ _).trans (by kernel_rfl)
  rw [e]
  unfold xCut
  have ec : (Lib.cut (B l).data.toList (⟨#[46]⟩ : ByteArray).data.toList) = cutL l := cut_eq l
  dsimp only
  rw [ec]
  exact if_pos (by rw [B_size]; omega)
theorem read_ev {l : List UInt8} (hl : l.length ≤ 1000000) : D 62 [.sc (.string (B l))] = some (pvG (readL l)) := by
  rw [f62_eq 0]
  refine cb (cutp_ev l) rfl ?_
  rw [B_size]
  by_cases h40 : (l.length : Int) > 40
  · rw [show readL l = (0, false) from if_neg (fun hh => by omega)]
    exact ip (decide_eq_true h40) rfl
  · refine im (by rw [decide_eq_true_eq]; exact h40) ?_
    have hb := body_len l
    refine cb (cut_ev (l := bodyL l) (by omega)) rfl ?_
    have hc := cut_len (bodyL l)
    generalize hC : cutL (bodyL l) = c at *
    refine cb (number_ev (w := c.1) (by omega)) rfl (cb (number_ev (w := c.2.1) (by omega)) rfl ?_)
    have bad : ¬ rightL c → readL l = (0, false) := fun hh => if_neg (fun h2 => hh (by rw [hC] at h2; exact h2.2))
    have hle : valL c.1 0 ≤ totL c := by unfold totL; omega
    have es : ∀ (a b c : PV), (cel 1 (PV.tup [a, b, c]).parts) = b ∧ (cel 2 (PV.tup [a, b, c]).parts) = c := fun _ _ _ => ⟨rfl, rfl⟩
    have es2 : ∀ (a b : PV), (cel 1 (PV.tup [a, b]).parts) = b := fun _ _ => rfl
    simp only [bO, bA, bs]
    simp only [pvG_0, pvG_1, tb, (es _ _ _).1, (es _ _ _).2, ts, es2, B_size]
    have go : (numS c.1) = ((valL c.1 0 : Int), true) → (c.1 ≠ [] ∧ c.1.all isD = true ∧ (valL c.1 0 : Int) ≤ 9223372036854775807) → c.2.1.length ≤ 4 → valL c.2.1 0 * 10 ^ (4 - c.2.1.length) ≤ 1000000 → (c.2.2 = true → c.2.1 ≠ [] ∧ c.2.1.all isD = true ∧ c.2.1.length ≤ 4) → (numS c.2.1).1 = (valL c.2.1 0 : Int) → f62.l0a 0 (minusL l) (numS c.1).1 (numS c.2.1).1 (IntKind.i64.wrap ((4 : Int) - (c.2.1.length : Int))) 0 = some (pvG (readL l)) := by
      intro hn h1 h4 hy hr ey
      rw [hn, ey, w64 (x := 4 - (c.2.1.length : Int)) (by omega) (by omega), show (4 : Int) - (c.2.1.length : Int) = ((4 - c.2.1.length : Nat) : Int) by omega]
      have := read_l (x := valL c.1 0) (y := valL c.2.1 0) (m := minusL l) h1.2.2 (e := 4 - c.2.1.length) (by omega) hy (4 - c.2.1.length) 0 (Nat.zero_add _)
      rw [Nat.pow_zero, Nat.mul_one] at this
      have e : readL l = putS (valL c.1 0) (valL c.2.1 0 * 10 ^ (4 - c.2.1.length)) (minusL l) := by
        unfold readL putS
        rw [hC]
        show _ = if ((totL c : Nat) : Int) ≤ _ then (if minusL l = true then -((totL c : Nat) : Int) else ((totL c : Nat) : Int), true) else (0, false)
        by_cases ht : ((totL c : Nat) : Int) ≤ 9223372036854775807
        · rw [if_pos ⟨by omega, h1.1, h1.2.1, hr, ht⟩, if_pos ht]
        · rw [if_neg (fun hh => ht hh.2.2.2.2), if_neg ht]
      rw [e]
      exact this
    by_cases h1 : c.1 ≠ [] ∧ c.1.all isD = true ∧ (valL c.1 0 : Int) ≤ 9223372036854775807
    · have hn := numS_yes h1
      have hn2 : (numS c.1).2 = true := by rw [hn]
      by_cases hp : c.2.2 = true
      · by_cases h2 : c.2.1 ≠ [] ∧ c.2.1.all isD = true ∧ (valL c.2.1 0 : Int) ≤ 9223372036854775807
        · have hm := numS_yes h2
          have hm2 : (numS c.2.1).2 = true := by rw [hm]
          by_cases h4 : c.2.1.length ≤ 4
          · refine im (by rw [hn2, hm2, hp, decide_eq_false (by omega)]; decide) ?_
            have hv := val_lt c.2.1 0 h2.2.1
            refine go hn h1 h4 ?_ (fun _ => ⟨h2.1, h2.2.1, h4⟩) (by rw [hm])
            have h5 : c.2.1.length = 0 ∨ c.2.1.length = 1 ∨ c.2.1.length = 2 ∨ c.2.1.length = 3 ∨ c.2.1.length = 4 := by omega
            rcases h5 with h5 | h5 | h5 | h5 | h5 <;> rw [h5] at hv ⊢ <;> simp at hv ⊢ <;> omega
          · refine ip (by rw [hn2, hm2, hp, decide_eq_true (by omega)]; decide) ?_
            rw [bad (fun hh => h4 (hh.2.2.1 hp).2.2)]; rfl
        · have hm2 : (numS c.2.1).2 = false := by rw [numS_no h2]
          refine ip (by rw [hn2, hm2, hp]; simp) ?_
          rw [bad (fun hh => by
            have h6 := hh.2.2.1 hp
            have h7 := hh.2.2.2
            have h8 : valL c.2.1 0 ≤ totL c := by
              unfold totL
              exact Nat.le_trans (Nat.le_mul_of_pos_right _ (Nat.pow_pos (by decide))) (Nat.le_add_left _ _)
            exact h2 ⟨h6.1, h6.2.1, by omega⟩)]
          rfl
      · have hp2 : c.2.2 = false := by simpa using hp
        refine im (by rw [hn2, hp2]; simp) ?_
        have he := hc.2.2 hp2
        refine go hn h1 (by rw [he]; decide) (by rw [he]; decide) (fun h => absurd h hp) ?_
        rw [he]
        rfl
    · have hn2 : (numS c.1).2 = false := by rw [numS_no h1]
      refine ip (by rw [hn2]; simp) ?_
      rw [bad (fun hh => h1 ⟨hh.1, hh.2.1, by have := hh.2.2.2; omega⟩)]
      rfl
theorem parse_ev {l : List UInt8} (hl : l.length ≤ 1000000) : D 85 [.sc (.string (B l))] = some (pvG (parseL l)) := by
  rw [f85_eq 0]
  refine cb (read_ev hl) rfl ?_
  simp only [pvG_0, text_ev read_ok.1, bs, shs, if_true, ts, B_toList, bO, tb]
  simp only [pvG_1]
  unfold parseL
  by_cases h : (readL l).2 = true
  · by_cases h2 : texS (readL l).1 = l
    · rw [if_pos ⟨h, h2⟩]
      refine im (by rw [h, h2]; simp) rfl
    · rw [if_neg (fun hh => h2 hh.2)]
      refine ip (by simp [h2]) rfl
  · rw [if_neg (fun hh => h hh.1)]
    have hf : (readL l).2 = false := by simpa using h
    exact ip (by rw [hf]; rfl) rfl
end Go.Den.EC
/- What decimal a text means, and with which one it begins: the plain part. -/
set_option linter.unusedVariables false
set_option linter.unusedSimpArgs false
namespace Go.Den
open Go Go.Proofs
/-- How many digits come, at the most m. -/
def runD : Nat → List UInt8 → Nat
  | 0, _ => 0
  | _ + 1, [] => 0
  | m + 1, c :: t => if isD c = true then 1 + runD m t else 0
def isDp (l : List UInt8) (i : Nat) : Bool := match l.drop i with | [] => false | c :: _ => isD c
def leadn (l : List UInt8) : Nat := let n := runD 30 l; if 0 < n ∧ (l.drop n).head? = some 46 ∧ isDp l (n + 1) = true then n + 1 + runD 4 (l.drop (n + 1)) else n
def leadL (l : List UInt8) : Int × Int × Bool := if (readL (l.take (leadn l))).2 = true then ((readL (l.take (leadn l))).1, (leadn l : Int), true) else (0, 0, false)
theorem runD_le : ∀ (m : Nat) (l : List UInt8), runD m l ≤ m ∧ runD m l ≤ l.length
  | 0, l => by simp [runD]
  | m + 1, [] => by simp [runD]
  | m + 1, c :: t => by
    have := runD_le m t
    rw [runD]
    split <;> simp <;> omega
theorem isDp_eq (l : List UInt8) (i : Nat) : isDp l i = if h : i < l.length then isD l[i] else false := by
  unfold isDp
  by_cases h : i < l.length
  · rw [dif_pos h, List.drop_eq_getElem_cons h]
  · rw [dif_neg h, List.drop_eq_nil_of_le (by omega)]
theorem runD_step (m : Nat) (l : List UInt8) (i : Nat) : runD (m + 1) (l.drop i) = if isDp l i = true then 1 + runD m (l.drop (i + 1)) else 0 := by
  rw [isDp_eq]
  by_cases h : i < l.length
  · rw [dif_pos h, List.drop_eq_getElem_cons h, runD]
  · rw [dif_neg h, List.drop_eq_nil_of_le (by omega), runD]; rfl
theorem leadn_le (l : List UInt8) : leadn l ≤ l.length := by
  unfold leadn
  have h := runD_le 30 l
  have h2 := runD_le 4 (l.drop (runD 30 l + 1))
  rw [List.length_drop] at h2
  dsimp only
  split
  · rename_i hh
    have hd : isDp l (runD 30 l + 1) = true := hh.2.2
    rw [isDp_eq] at hd
    by_cases h3 : runD 30 l + 1 < l.length
    · omega
    · rw [dif_neg h3] at hd; cases hd
  · exact h.2
def gotN (v : Nat) : Int × Bool := if (v : Int) ≤ 9223372036854775807 then ((v : Int), true) else (0, false)
theorem gotN_yes {v : Nat} (h : (v : Int) ≤ 9223372036854775807) : gotN v = ((v : Int), true) := if_pos h
theorem gotN_no {v : Nat} (h : ¬ (v : Int) ≤ 9223372036854775807) : gotN v = (0, false) := if_neg h
def finN (m : Bool) (v : Nat) : Int × Bool := if (v : Int) ≤ 9223372036854775807 then (if m = true then -(v : Int) else (v : Int), true) else (0, false)
/-- The digits, and how many stand behind the point; none: a byte is wrong. -/
def scanL : List UInt8 → Bool → Option Nat → Nat → Option (Option Nat × Nat)
  | [], _, b, v => some (b, v)
  | c :: t, st, b, v => if c = 46 ∧ b = none ∧ st = true then scanL t true (some 0) v else if isD c = true then scanL t true (b.map (· + 1)) (v * 10 + (c.toNat - 48)) else none
def bI : Option Nat → Int
  | none => -1
  | some b => b
def finL (e m : Bool) : Option (Option Nat × Nat) → Int × Bool
  | none => (0, false)
  | some (b, v) => if e = true ∨ b = some 0 ∨ 4 < b.getD 0 then (0, false) else finN m (v * 10 ^ (4 - b.getD 0))
theorem finL_some (e m : Bool) (b : Option Nat) (v : Nat) : finL e m (some (b, v)) = if e = true ∨ b = some 0 ∨ 4 < b.getD 0 then (0, false) else finN m (v * 10 ^ (4 - b.getD 0)) := rfl
theorem scan_two : ∀ (t : List UInt8) (st : Bool) (b v : Nat), scanL t st (some b) v = if t.all isD = true then some (some (b + t.length), valL t v) else none
  | [], st, b, v => rfl
  | c :: t, st, b, v => by
    rw [scanL, if_neg (fun hh => by cases hh.2.1)]
    by_cases h : isD c = true
    · rw [if_pos h]
      show scanL t true (some (b + 1)) _ = _
      rw [scan_two t true (b + 1), List.all_cons, h, Bool.true_and, valL, List.length_cons, show b + 1 + t.length = b + (t.length + 1) by omega]
    · rw [if_neg h, List.all_cons, if_neg (by rw [Bool.and_eq_true]; exact fun hh => h hh.1)]
theorem isD46 : isD 46 = false := by decide
theorem scan_one : ∀ (t : List UInt8) (st : Bool) (v : Nat), scanL t st none v =
    if (cutL t).1.all isD = true then (if (cutL t).2.2 = true then (if st = true ∨ (cutL t).1 ≠ [] then (if (cutL t).2.1.all isD = true then some (some (cutL t).2.1.length, valL (cutL t).2.1 (valL (cutL t).1 v)) else none) else none) else some (none, valL (cutL t).1 v)) else none
  | [], st, v => rfl
  | c :: t, st, v => by
    rw [scanL]
    by_cases hc : c = 46
    · subst hc
      have e : cutL (46 :: t) = ([], t, true) := by rw [cutL, if_pos rfl]
      rw [e]
      by_cases hs : st = true
      · rw [if_pos ⟨rfl, rfl, hs⟩, scan_two, Nat.zero_add]
        simp only [List.all_nil, if_true, hs, true_or]
        rfl
      · rw [if_neg (fun hh => hs hh.2.2), isD46]
        simp [hs]
    · have e : cutL (c :: t) = (c :: (cutL t).1, (cutL t).2.1, (cutL t).2.2) := by rw [cutL, if_neg hc]
      rw [if_neg (fun hh => hc hh.1), e]
      dsimp only
      rw [List.all_cons]
      by_cases h : isD c = true
      · rw [if_pos h, h, Bool.true_and]
        show scanL t true none _ = _
        rw [scan_one t true]
        simp only [valL, true_or, if_true, ne_eq, reduceCtorEq, not_false_eq_true, or_true]
      · rw [if_neg h, show isD c = false by simpa using h]
        rfl
theorem tot_eq (a z : List UInt8) (h : z.length ≤ 4) : valL z (valL a 0) * 10 ^ (4 - z.length) = valL a 0 * 10000 + valL z 0 * 10 ^ (4 - z.length) := by
  have key : ∀ (z : List UInt8) (n : Nat), valL z n = n * 10 ^ z.length + valL z 0 := by
    intro z
    induction z with
    | nil => intro n; simp [valL]
    | cons b z ih =>
      intro n
      rw [valL, valL, ih (n * 10 + (b.toNat - 48)), ih (0 * 10 + (b.toNat - 48)), List.length_cons, Nat.pow_succ]
      generalize b.toNat - 48 = c
      generalize 10 ^ z.length = p
      rw [Nat.zero_mul, Nat.zero_add, Nat.add_mul, Nat.add_assoc, Nat.mul_assoc, Nat.mul_comm 10 p]
  rw [key z (valL a 0), Nat.add_mul, Nat.mul_assoc, ← Nat.pow_add, show z.length + (4 - z.length) = 4 by omega]
/-- The reference's answer is the program's. -/
theorem fin_read {l : List UInt8} (hl : l.length ≤ 40) : finL (bodyL l == []) (minusL l) (scanL (bodyL l) false none 0) = readL l := by
  rw [scan_one]
  have hcl := cut_len (bodyL l)
  have hce : bodyL l = [] → (cutL (bodyL l)).1 = [] := by intro h; rw [h]; rfl
  have hne : (cutL (bodyL l)).1 = [] → (cutL (bodyL l)).2.2 = false → bodyL l = [] := by
    intro h1 h2
    rcases hb : bodyL l with _ | ⟨c, t⟩
    · rfl
    · rw [hb, cutL] at h1 h2
      by_cases hc : c = 46
      · rw [if_pos hc] at h2; cases h2
      · rw [if_neg hc] at h1; cases h1
  unfold readL rightL
  generalize hC : cutL (bodyL l) = C at *
  obtain ⟨a, z, p⟩ := C
  dsimp only at *
  by_cases ha : a.all isD = true
  · rw [if_pos ha]
    cases p with
    | true =>
      rw [if_pos rfl]
      by_cases h0 : a = []
      · rw [if_neg (by simp [h0]), if_neg (fun hh => hh.2.1 h0)]; rfl
      · rw [if_pos (Or.inr h0)]
        have hb0 : (bodyL l == []) = false := by
          have : bodyL l ≠ [] := fun h => h0 (hce h)
          simpa using this
        by_cases hz : z.all isD = true
        · rw [if_pos hz]
          rw [finL_some]
          by_cases hz0 : z = []
          · rw [if_pos (Or.inr (Or.inl (by rw [hz0]; rfl))), if_neg (fun hh => (hh.2.2.2.1 rfl).1 hz0)]
          · by_cases h4 : z.length ≤ 4
            · rw [if_neg (by
                rw [hb0]
                rintro (h | h | h)
                · cases h
                · exact hz0 (List.length_eq_zero_iff.1 (Option.some.inj h))
                · have : 4 < z.length := h
                  omega)]
              show finN (minusL l) (valL z (valL a 0) * 10 ^ (4 - z.length)) = _
              rw [tot_eq a z h4]
              unfold finN totL
              dsimp only
              by_cases hm : ((valL a 0 * 10000 + valL z 0 * 10 ^ (4 - z.length) : Nat) : Int) ≤ 9223372036854775807
              · exact (if_pos hm).trans (if_pos ⟨hl, h0, ha, fun _ => ⟨hz0, hz, h4⟩, hm⟩).symm
              · rw [if_neg hm, if_neg (fun hh => hm hh.2.2.2.2)]
            · rw [if_pos (Or.inr (Or.inr (by show 4 < z.length; omega))), if_neg (fun hh => h4 (hh.2.2.2.1 rfl).2.2)]
        · rw [if_neg hz, if_neg (fun hh => hz (hh.2.2.2.1 rfl).2.1)]; rfl
    | false =>
      rw [if_neg (by decide)]
      obtain rfl := hcl.2.2 rfl
      rw [finL_some]
      by_cases h0 : a = []
      · rw [if_pos (Or.inl (by rw [hne h0 rfl]; rfl)), if_neg (fun hh => hh.2.1 h0)]
      · have hb0 : (bodyL l == []) = false := by
          have : bodyL l ≠ [] := fun h => h0 (hce h)
          simpa using this
        rw [if_neg (by rw [hb0]; rintro (h | h | h) <;> first | cases h | exact absurd h (by decide))]
        show finN (minusL l) (valL a 0 * 10 ^ 4) = _
        have e : totL (a, ([] : List UInt8), false) = valL a 0 * 10 ^ 4 := by unfold totL; simp [valL]
        unfold finN
        rw [← e]
        by_cases hm : ((totL (a, ([] : List UInt8), false) : Nat) : Int) ≤ 9223372036854775807
        · exact (if_pos hm).trans (if_pos ⟨hl, h0, ha, (fun h => absurd h (by decide)), hm⟩).symm
        · rw [if_neg hm, if_neg (fun hh => hm hh.2.2.2.2)]
  · rw [if_neg ha, if_neg (fun hh => ha hh.2.2.1)]; rfl
theorem minus_eq (b : UInt8) (l : List UInt8) : minusL (b :: l) = ((b.toNat : Int) == 45) ∧ bodyL (b :: l) = if ((b.toNat : Int) == 45) = true then l else b :: l := by
  by_cases h : b = 45
  · subst h
    exact body_minus l
  · have hm : minusL (b :: l) = false := by
      unfold minusL
      simp [Lib.hasPrefix, List.isPrefixOf, Ne.symm h]
    have he : ((b.toNat : Int) == 45) = false := beq_eq_false_iff_ne.mpr (fun e => h (UInt8.toNat_inj.1 (by show b.toNat = 45; omega)))
    rw [hm, he]
    refine ⟨rfl, ?_⟩
    unfold bodyL Lib.trimPrefix
    rw [show Lib.hasPrefix (b :: l) [45] = false from hm]; rfl
theorem take_ext (l : List UInt8) (n : Nat) : (B l).extract 0 ((n : Int)).toNat = B (l.take n) := by
  rw [B_extract, Int.toNat_natCast, List.drop_zero, Nat.sub_zero]
def leadR (l : List UInt8) (n : Nat) : Int × Int × Bool := if (readL (l.take n)).2 = true then ((readL (l.take n)).1, (n : Int), true) else (0, 0, false)
theorem take_len (l : List UInt8) (n : Nat) : (l.take n).length ≤ l.length := by rw [List.length_take]; omega
theorem head_46 (l : List UInt8) (n : Nat) : ((l.drop n).head? = some 46) ↔ ∃ h : n < l.length, (l[n].toNat : Int) = 46 := by
  by_cases h : n < l.length
  · rw [List.drop_eq_getElem_cons h]
    constructor
    · intro e
      have e2 : l[n] = 46 := Option.some.inj e
      exact ⟨h, by rw [e2]; rfl⟩
    · rintro ⟨_, e⟩
      have : l[n] = 46 := UInt8.toNat_inj.1 (by show l[n].toNat = 46; omega)
      rw [this]; rfl
  · rw [List.drop_eq_nil_of_le (by omega)]
    constructor
    · intro e; cases e
    · rintro ⟨h2, _⟩; exact absurd h2 h
def leadN (l : List UInt8) (n : Nat) : Nat := if 0 < n ∧ (l.drop n).head? = some 46 ∧ isDp l (n + 1) = true then n + 1 + runD 4 (l.drop (n + 1)) else n
theorem dp_lt {l : List UInt8} {i : Nat} (h : isDp l i = true) : i < l.length := by
  rw [isDp_eq] at h
  by_cases h3 : i < l.length
  · exact h3
  · rw [dif_neg h3] at h; cases h
end Go.Den
/- Decimals, as the reference reads, adds, multiplies and tells them. -/
set_option linter.unusedVariables false
set_option linter.unusedSimpArgs false
set_option maxRecDepth 100000
namespace Go.Den.EC
open Go Go.Proofs
/-- A count, as the reference tells it. -/
theorem u8dig (n : Nat) : bytesOf [PV.sc (.int .u8 (IntKind.u8.wrap (IntKind.u64.wrap ((48 : Int) + ((n : Int).tmod 10)))))] = B [dc (n % 10)] := by
  have e : Int.tmod (n : Int) 10 = ((n % 10 : Nat) : Int) := by rw [Int.tmod_eq_emod_of_nonneg (by omega)]; omega
  have h : n % 10 < 10 := Nat.mod_lt _ (by decide)
  have e8 : IntKind.u8.wrap ((48 + n % 10 : Nat) : Int) = ((48 + n % 10 : Nat) : Int) := by
    simp [IntKind.wrap, IntKind.bits, IntKind.signed]; omega
  rw [e, u64i (by omega) (by omega), show ((48 : Int) + ((n % 10 : Nat) : Int)) = ((48 + n % 10 : Nat) : Int) by omega, e8]
  rfl
theorem utens (n : Nat) (h : (n : Int) ≤ 18446744073709551615) : IntKind.u64.wrap (Int.tdiv (n : Int) 10) = ((n / 10 : Nat) : Int) := by
  rw [Int.tdiv_eq_ediv_of_nonneg (by omega), u64i (by omega) (by omega)]
  omega
theorem whole_l (d : Nat) : ∀ (n : Nat) (l : List UInt8), n < 10 ^ d → (n : Int) ≤ 18446744073709551615 → l.length + d ≤ 100 → f133.l0a 0 (n : Int) (B l) = some (.sc (.string (B (dg n ++ l)))) := by
  induction d with
  | zero =>
    intro n l h _ hl
    obtain rfl : n = 0 := by simpa using h
    rw [f133.l0a_eq]
    exact im (by decide) rfl
  | succ d ih =>
    intro n l h hu hl
    rw [f133.l0a_eq]
    by_cases h0 : n = 0
    · subst h0
      exact im (by decide) rfl
    · refine ip (by rw [decide_eq_true_eq]; omega) (ip rfl ?_)
      rw [u8dig, B_append, B_size, B_size, utens n hu]
      refine ip (by simp; omega) ?_
      have := ih (n / 10) ([dc (n % 10)] ++ l) (by rw [Nat.pow_succ] at h; omega) (by omega) (by simp; omega)
      rw [← List.append_assoc, dg_step] at this
      rw [show dg n = Lib.decDigits n from if_neg h0]
      exact this
theorem whole_ev (n : Nat) (h : n ≤ 18446744073709551615) : D 133 [.sc (.int .u64 (n : Int))] = some (.sc (.string (B (Lib.decDigits n)))) := by
  rw [f133_eq 0]
  refine ip rfl ?_
  rw [u8dig, utens n (by omega)]
  have := whole_l 25 (n / 10) [dc (n % 10)] (by omega) (by omega) (by simp)
  rw [dg_step] at this
  exact this
theorem rmay8_ev {x : Int} (h : I64 x) : D 56 [.sc (.int .i64 x)] = some (.sc (.bool (decide (May x)))) := by
  rw [f56_eq 0]
  congr 3
  rw [Bool.eq_iff_iff, decide_eq_true_iff, decide_eq_true_iff]
  unfold I64 at h
  unfold May; omega
theorem abs_ev {x : Int} (h : May x) : D 132 [.sc (.int .i64 x)] = some (.sc (.int .u64 (x.natAbs : Int))) := by
  unfold May at h
  rw [f132_eq 0]
  by_cases h0 : x < 0
  · refine ip (by simpa using h0) ?_
    rw [w64 (by omega) (by omega), u64i (by omega) (by omega)]
    exact congrArg (fun z => some (PV.sc (.int .u64 z))) (by omega)
  · refine im (by simpa using h0) ?_
    rw [u64i (by omega) (by omega)]
    exact congrArg (fun z => some (PV.sc (.int .u64 z))) (by omega)
theorem rtext_l (d : Nat) : ∀ (r : Nat) (l : List UInt8), r < 10000 → d ≤ 4 → r % 10 ^ (4 - d) = 0 → l.length ≤ 40 - d → f92.l2a 0 (B l) (r : Int) = some (.sc (.string (B (l ++ fracL d r)))) := by
  induction d with
  | zero =>
    intro r l hr hd hm hl
    have h0 : r = 0 := by
      have : (10 : Nat) ^ (4 - 0) = 10000 := by decide
      rw [this] at hm
      omega
    subst h0
    rw [f92.l2a_eq]
    refine im (by decide) ?_
    rw [show fracL 0 0 = [] from rfl, List.append_nil]
  | succ d ih =>
    intro r l hr hd hm hl
    rw [f92.l2a_eq]
    by_cases h0 : r = 0
    · subst h0
      refine im (by decide) ?_
      rw [show fracL (d + 1) 0 = [] from by simp [fracL], List.append_nil]
    · refine ip (by rw [decide_eq_true_eq]; omega) ?_
      have e1 : IntKind.u64.wrap (Int.tdiv (r : Int) 1000) = ((r / 1000 : Nat) : Int) := by
        rw [Int.tdiv_eq_ediv_of_nonneg (by omega), u64i (by omega) (by omega)]; omega
      have e2 : IntKind.u64.wrap ((Int.tmod (r : Int) 1000) * 10) = ((r % 1000 * 10 : Nat) : Int) := by
        rw [Int.tmod_eq_emod_of_nonneg (by omega), u64i (by omega) (by omega)]; omega
      rw [e1, e2]
      refine cb (whole_ev _ (by omega)) rfl ?_
      rw [dd_small (by omega)]
      simp only [ts]
      refine ip (by simp [B_size]; omega) ?_
      rw [B_append]
      have hm2 : (r % 1000 * 10) % 10 ^ (4 - d) = 0 := by
        have : d = 0 ∨ d = 1 ∨ d = 2 ∨ d = 3 := by omega
        rcases this with rfl | rfl | rfl | rfl
        · have e : (10 : Nat) ^ (4 - (0 + 1)) = 1000 := by decide
          rw [e] at hm
          show _ % 10000 = 0
          omega
        · have e : (10 : Nat) ^ (4 - (1 + 1)) = 100 := by decide
          rw [e] at hm
          show _ % 1000 = 0
          omega
        · have e : (10 : Nat) ^ (4 - (2 + 1)) = 10 := by decide
          rw [e] at hm
          show _ % 100 = 0
          omega
        · show _ % 10 = 0
          omega
      rw [ih (r % 1000 * 10) (l ++ [dc (r / 1000)]) (by omega) (by omega) hm2 (by simp; omega)]
      rw [show fracL (d + 1) r = dc (r / 1000) :: fracL d (r % 1000 * 10) from by simp [fracL, h0], List.append_assoc]
      rfl
theorem rtext_ev {x : Int} (hx : I64 x) : D 92 [.sc (.int .i64 x)] = some (.sc (.string (B (texS x)))) := by
  rw [f92_eq 0]
  refine cb (rmay8_ev hx) rfl ?_
  simp only [tb]
  unfold texS
  by_cases h : May x
  · rw [if_pos h, decide_eq_true h]
    refine im (by decide) (cb (abs_ev h) rfl ?_)
    have hh := h
    unfold May at hh
    have e1 : IntKind.u64.wrap (Int.tdiv (x.natAbs : Int) 10000) = ((x.natAbs / 10000 : Nat) : Int) := by
      rw [Int.tdiv_eq_ediv_of_nonneg (by omega), u64i (by omega) (by omega)]; omega
    have e2 : Int.tmod (x.natAbs : Int) 10000 = ((x.natAbs % 10000 : Nat) : Int) := by
      rw [Int.tmod_eq_emod_of_nonneg (by omega)]; omega
    simp only [ti]
    rw [e1]
    refine cb (whole_ev _ (by omega)) rfl ?_
    have hl := head_len h
    have hr : x.natAbs % 10000 < 10000 := Nat.mod_lt _ (by decide)
    have fin : ∀ l : List UInt8, l.length ≤ 17 → f92.j0a 0 (x.natAbs : Int) (B l) = some (.sc (.string (B (l ++ fracS (x.natAbs % 10000))))) := by
      intro l hl
      rw [f92.j0a_eq, e2]
      unfold fracS
      generalize x.natAbs % 10000 = r at hr
      by_cases h0 : r = 0
      · subst h0
        refine im (by decide) ?_
        rw [f92.j1a_eq, if_pos rfl, List.append_nil, f92.l2a_eq]
        exact im (by decide) rfl
      · refine ip (by rw [decide_eq_true_eq]; omega) ?_
        rw [if_neg h0]
        refine ip (by rw [B_size]; omega) ?_
        rw [show (⟨#[46]⟩ : ByteArray) = B [46] from rfl, B_append, f92.j1a_eq]
        rw [rtext_l 4 r (l ++ [46]) hr (by decide) (by omega) (by simp; omega), List.append_assoc]
        rfl
    unfold texL
    by_cases h0 : x < 0
    · rw [if_pos h0] at hl ⊢
      refine ip (by simpa using h0) ?_
      simp only [ts]
      refine ip (by rw [B_size]; simp at hl ⊢; omega) ?_
      rw [show (⟨#[45]⟩ : ByteArray) = B [45] from rfl, B_append]
      exact fin _ hl
    · rw [if_neg h0] at hl ⊢
      refine im (by simpa using h0) ?_
      exact fin _ hl
  · rw [if_neg h, decide_eq_false h]
    exact ip (by decide) rfl
def pvO (q r : Int) (ok : Bool) : PV := .agg [.sc (.int .u64 q), .sc (.int .u64 r), .sc (.bool ok)]
def pvGa (g : Int × Bool) : PV := .agg [.sc (.int .i64 g.1), .sc (.bool g.2)]
theorem small_mul {a b : Int} (h0 : 0 ≤ a) (h1 : a ≤ 4294967295) (b0 : 0 ≤ b) (b1 : b ≤ 10000) : 0 ≤ a * b ∧ a * b ≤ 42949672950000 := by
  refine ⟨Int.mul_nonneg h0 b0, ?_⟩
  have := Int.mul_le_mul h1 b1 b0 (by decide : (0 : Int) ≤ 4294967295)
  exact this
theorem bt46 {l : List UInt8} {i : Nat} (h : i < l.length) : ((bt (B l) (i : Int)) == 46) = (l[i] == 46) := by
  rw [B_bt h, Bool.eq_iff_iff, beq_iff_eq, beq_iff_eq]
  constructor
  · intro h2
    have : l[i].toNat = (46 : UInt8).toNat := by have : (46 : UInt8).toNat = 46 := rfl; omega
    exact UInt8.toNat_inj.1 this
  · intro h2; rw [h2]; rfl
end Go.Den.EC
/- Which decimal a text means: the reference; with which one a text begins: both. -/
set_option linter.unusedVariables false
set_option linter.unusedSimpArgs false
set_option maxRecDepth 100000
namespace Go.Den.EC
open Go Go.Proofs
theorem dval_g {b : UInt8} (hd : isD b = true) : IntKind.i64.wrap (IntKind.i64.wrap (b.toNat : Int) - 48) = ((b.toNat - 48 : Nat) : Int) := by
  have hb : 48 ≤ b.toNat ∧ b.toNat ≤ 57 := by unfold isD at hd; simpa using hd
  rw [w64 (x := (b.toNat : Int)) (by omega) (by omega), w64 (by omega) (by omega)]; omega
end Go.Den.EC
/- What is put in the place of a text; texts within marks: the plain part. -/
set_option linter.unusedVariables false
set_option linter.unusedSimpArgs false
namespace Go.Den
open Go Go.Proofs
theorem idx_cons (b : UInt8) (l o : List UInt8) (h : o.isPrefixOf (b :: l) = false) : (Lib.index l o = -1 ∧ Lib.index (b :: l) o = -1) ∨ ∃ i : Nat, Lib.index l o = i ∧ Lib.index (b :: l) o = ((i + 1 : Nat) : Int) := by
  have e : Lib.index (b :: l) o = if Lib.index l o == -1 then -1 else Lib.index l o + 1 := by
    conv => lhs; unfold Lib.index
    rw [if_neg (by rw [h]; decide)]
  have hg := Lib.index_ge l o
  by_cases hm : Lib.index l o = -1
  · exact .inl ⟨hm, by rw [e, hm]; rfl⟩
  · refine .inr ⟨(Lib.index l o).toNat, by omega, ?_⟩
    rw [e, if_neg (by simpa using hm)]; omega
theorem idx_hit (b : UInt8) (l o : List UInt8) (h : o.isPrefixOf (b :: l) = true) : Lib.index (b :: l) o = ((0 : Nat) : Int) := by
  unfold Lib.index
  rw [if_pos h]; rfl
theorem cnt_hit {b : UInt8} {l o : List UInt8} (ho : o ≠ []) (h : o.isPrefixOf (b :: l) = true) : Lib.count (b :: l) o = 1 + Lib.count ((b :: l).drop o.length) o := by
  have := Lib.count_hit ho (idx_hit b l o h)
  rwa [Nat.zero_add] at this
theorem cnt_miss {b : UInt8} {l o : List UInt8} (ho : o ≠ []) (h : o.isPrefixOf (b :: l) = false) : Lib.count (b :: l) o = Lib.count l o := by
  rcases idx_cons b l o h with ⟨h1, h2⟩ | ⟨i, h1, h2⟩
  · rw [Lib.count_miss h1, Lib.count_miss h2]
  · rw [Lib.count_hit ho h1, Lib.count_hit ho h2, show i + 1 + o.length = (i + o.length) + 1 by omega, List.drop_succ_cons]
theorem cnt_nil {o : List UInt8} (ho : o ≠ []) : Lib.count [] o = 0 := by
  refine Lib.count_miss ?_
  unfold Lib.index
  rw [if_neg (by cases o <;> simp_all)]
/-- What is put. -/
def repR (o n s : List UInt8) : List UInt8 := Lib.replaceK o n (Lib.count s o) s
theorem rep_nil {o n : List UInt8} (ho : o ≠ []) : repR o n [] = [] := by unfold repR; rw [cnt_nil ho]; rfl
theorem rep_hit {b : UInt8} {l o n : List UInt8} (ho : o ≠ []) (h : o.isPrefixOf (b :: l) = true) : repR o n (b :: l) = n ++ repR o n ((b :: l).drop o.length) := by
  unfold repR
  rw [cnt_hit ho h, Nat.add_comm, Lib.replaceK_hit o n _ _ 0 (idx_hit b l o h), Nat.zero_add]
  rfl
theorem rep_miss {b : UInt8} {l o n : List UInt8} (ho : o ≠ []) (h : o.isPrefixOf (b :: l) = false) : repR o n (b :: l) = b :: repR o n l := by
  unfold repR
  rw [cnt_miss ho h]
  rcases idx_cons b l o h with ⟨h1, h2⟩ | ⟨i, h1, h2⟩
  · rw [Lib.count_miss h1]; rfl
  · rw [Lib.count_hit ho h1, Nat.add_comm, Lib.replaceK_hit o n _ _ i h1, Lib.replaceK_hit o n _ _ (i + 1) h2, show i + 1 + o.length = (i + o.length) + 1 by omega, List.drop_succ_cons]
    rfl
theorem rep_ind {o : List UInt8} (ho : o ≠ []) (M : List UInt8 → Prop) (h0 : M []) (h1 : ∀ b l, o.isPrefixOf (b :: l) = true → M ((b :: l).drop o.length) → M (b :: l)) (h2 : ∀ b l, o.isPrefixOf (b :: l) = false → M l → M (b :: l)) : ∀ (d : Nat) (s : List UInt8), s.length ≤ d → M s
  | _, [], _ => h0
  | 0, b :: l, h => by simp at h
  | d + 1, b :: l, h => by
    have hp : 0 < o.length := List.length_pos_iff.2 ho
    cases e : o.isPrefixOf (b :: l)
    · exact h2 b l e (rep_ind ho M h0 h1 h2 d l (by simp at h; omega))
    · exact h1 b l e (rep_ind ho M h0 h1 h2 d _ (by rw [List.length_drop]; simp at h ⊢; omega))
theorem pre_len {o s : List UInt8} (h : o.isPrefixOf s = true) : o.length ≤ s.length ∧ s.take o.length = o := by
  have := List.isPrefixOf_iff_prefix.1 h
  obtain ⟨t, rfl⟩ := this
  exact ⟨by simp, by simp⟩
theorem rep_len {o n : List UInt8} (ho : o ≠ []) (s : List UInt8) : (repR o n s).length + Lib.count s o * o.length = s.length + Lib.count s o * n.length := by
  refine rep_ind ho (fun s => (repR o n s).length + Lib.count s o * o.length = s.length + Lib.count s o * n.length) ?_ ?_ ?_ s.length s (Nat.le_refl _)
  · rw [rep_nil ho, cnt_nil ho]; simp
  · intro b l h ih
    have := (pre_len h).1
    rw [rep_hit ho h, cnt_hit ho h, List.length_append]
    rw [List.length_drop] at ih
    rw [Nat.add_mul, Nat.add_mul, Nat.one_mul, Nat.one_mul]
    omega
  · intro b l h ih
    rw [rep_miss ho h, cnt_miss ho h]
    simp only [List.length_cons]
    omega
theorem rep_same {o : List UInt8} (ho : o ≠ []) (s : List UInt8) : repR o o s = s := by
  refine rep_ind ho (fun s => repR o o s = s) (rep_nil ho) ?_ ?_ s.length s (Nat.le_refl _)
  · intro b l h ih
    rw [rep_hit ho h, ih]
    have := (pre_len h).2
    conv => lhs; lhs; rw [← this]
    exact List.take_append_drop _ _
  · intro b l h ih
    rw [rep_miss ho h, ih]
def dblL : List UInt8 → List UInt8
  | [] => []
  | b :: l => if b = 34 then 34 :: 34 :: dblL l else b :: dblL l
def quoL (l : List UInt8) : List UInt8 := 34 :: (dblL l ++ [34])
theorem rep_dbl : ∀ l : List UInt8, repR [34] [34, 34] l = dblL l
  | [] => rep_nil (by simp)
  | b :: l => by
    rw [dblL]
    by_cases h : b = 34
    · subst h
      rw [if_pos rfl, rep_hit (by simp) (by simp [List.isPrefixOf])]
      show 34 :: 34 :: repR [34] [34, 34] l = _
      rw [rep_dbl l]
    · rw [if_neg h, rep_miss (by simp) (by simp [List.isPrefixOf, Ne.symm h]), rep_dbl l]
theorem dbl_len : ∀ l : List UInt8, (dblL l).length ≤ 2 * l.length
  | [] => by simp [dblL]
  | b :: l => by
    have := dbl_len l
    rw [dblL]
    split <;> simp <;> omega
end Go.Den
/- Texts within marks: both. -/
set_option linter.unusedVariables false
set_option linter.unusedSimpArgs false
set_option maxRecDepth 100000
namespace Go.Den.EC
open Go Go.Proofs
theorem strB_L (l : List UInt8) : strB (B l) = l.map fun b => .sc (.int .u8 b.toNat) := rfl
theorem strB_add (l : List UInt8) (b : UInt8) : strB (B l) ++ [.sc (.int .u8 (b.toNat : Int))] = strB (B (l ++ [b])) := by rw [strB_L, strB_L]; simp
theorem strB_34 (l : List UInt8) : strB (B l) ++ [.sc (.int .u8 34)] = strB (B (l ++ [34])) := strB_add l 34
theorem strB_shp (s : ByteArray) : (strB s).all (hasSh (.int .u8)) = true := by
  rw [List.all_eq_true]
  intro x hx
  unfold strB at hx
  obtain ⟨b, _, rfl⟩ := List.mem_map.1 hx
  rfl
theorem strB_ln (l : List UInt8) : (strB (B l)).length = l.length := by rw [strB_L, List.length_map]
theorem bytes_str (l : List UInt8) : bytesOf (strB (B l)) = B l := by
  have h : ∀ s : ByteArray, bytesOf (strB s) = s := by
    intro s
    unfold bytesOf strB
    rw [List.map_map]
    have e : ((fun x : PV => UInt8.ofNat x.toInt.toNat) ∘ fun b : UInt8 => PV.sc (.int .u8 (b.toNat : Int))) = id := by
      funext b
      show UInt8.ofNat ((b.toNat : Int)).toNat = b
      rw [Int.toNat_natCast]; exact UInt8.ofNat_toNat
    rw [e, List.map_id]
  exact h _
theorem repl_ev (s o n : List UInt8) (hs : s.length ≤ 1000) (hn : n.length ≤ 1000) (ho : o ≠ []) : D 73 [.sc (.string (B s)), .sc (.string (B o)), .sc (.string (B n))] = some (.sc (.string (B (repR o n s)))) := by
  have e : D 73 [.sc (.string (B s)), .sc (.string (B o)), .sc (.string (B n))] = xReplaceAll [.sc (.string (B s)), .sc (.string (B o)), .sc (.string (B n))] := (denI_eq 0 _ _).trans (by kernel_rfl)
  rw [e]
  have hp : 0 < o.length := List.length_pos_iff.2 ho
  have hc : Lib.count s o * n.length ≤ 1001 * 1000 := Nat.mul_le_mul (by have := Lib.count_le s o; omega) hn
  have hcond : (B s).size < 4294967281 ∧ 1 ≤ (B o).size ∧ (B s).size + Lib.countB (B s) (B o) * (B n).size ≤ 140737488355328 := by
    refine ⟨by rw [B_size]; omega, by rw [B_size]; omega, ?_⟩
    rw [B_size, B_size]
    show s.length + Lib.count s o * n.length ≤ _
    omega
  refine (if_pos hcond).trans ?_
  · show some (PV.sc (.string (B (Lib.replaceAll s o n)))) = _
    have e2 : Lib.replaceAll s o n = repR o n s := by
      unfold Lib.replaceAll Lib.replace
      by_cases h : (o == n) = true
      · rw [if_pos h]
        have : o = n := by simpa using h
        subst this
        exact (rep_same ho s).symm
      · rw [if_neg h]
        unfold repR Lib.replaceNum
        rw [if_pos (.inl (by decide))]
    rw [e2]
theorem quote_ev (l : List UInt8) (hl : l.length ≤ 1000) : D 19 [.sc (.string (B l))] = some (.sc (.string (B (quoL l)))) := by
  rw [f19_eq 0]
  have e34 : (⟨#[34]⟩ : ByteArray) = B [34] := rfl
  have e3434 : (⟨#[34, 34]⟩ : ByteArray) = B [34, 34] := rfl
  rw [e34, e3434]
  refine cb (repl_ev l [34] [34, 34] hl (by simp) (by simp)) rfl ?_
  rw [rep_dbl]
  have := dbl_len l
  simp only [ts, B_append, B_size]
  refine ip (by omega) (ip (by simp; omega) ?_)
  rfl
theorem bt34 {l : List UInt8} {i : Nat} (h : i < l.length) : ((bt (B l) (i : Int)) == 34) = decide (l[i] = 34) := by
  rw [B_bt h, Bool.eq_iff_iff, beq_iff_eq, decide_eq_true_eq]
  constructor
  · intro h2
    have : l[i].toNat = (34 : UInt8).toNat := by have : (34 : UInt8).toNat = 34 := rfl; omega
    exact UInt8.toNat_inj.1 this
  · intro h2; rw [h2]; rfl
theorem rquote_l (l : List UInt8) (hl : l.length ≤ 1000) : ∀ (d i : Nat) (out : List UInt8), i + d = l.length → out.length ≤ 2 * i + 1 → f20.l0a 0 (B l) (i : Int) (strB (B out)) = some (.sc (.string (B (out ++ (dblL (l.drop i) ++ [34]))))) := by
  intro d
  induction d with
  | zero =>
    intro i out h ho
    rw [f20.l0a_eq]
    refine im (by rw [decide_eq_true_eq, B_size]; omega) ?_
    refine ip (by rw [strB_ln]; simp; omega) ?_
    rw [strB_34]
    refine ip (strB_shp _) ?_
    rw [bytes_str, List.drop_eq_nil_of_le (by omega), dblL, List.nil_append]
  | succ d ih =>
    intro i out h ho
    have hi : i < l.length := by omega
    have c1 : (0 : Int) ≤ (i : Int) := by omega
    have c2 : (i : Int) < ((B l).size : Int) := by rw [B_size]; omega
    rw [f20.l0a_eq]
    refine ip (by rw [decide_eq_true_eq]; exact c2) (ip c1 (ip c2 ?_))
    rw [List.drop_eq_getElem_cons hi, dblL]
    by_cases hb : l[i] = 34
    · refine ip (by rw [bt34 hi]; exact decide_eq_true hb) (ip (by rw [strB_ln]; simp; omega) (ip c1 (ip c2 (ip (by rw [strB_34, strB_ln]; simp; omega) ?_))))
      rw [strB_34, B_bt hi, strB_add, hb, if_pos rfl, nx hi (by omega), ih (i + 1) (out ++ [34] ++ [34]) (by omega) (by simp; omega)]
      simp
    · refine im (by rw [bt34 hi]; simpa using hb) (ip c1 (ip c2 (ip (by rw [strB_ln]; simp; omega) ?_)))
      rw [B_bt hi, strB_add, if_neg hb, nx hi (by omega), ih (i + 1) (out ++ [l[i]]) (by omega) (by simp; omega)]
      simp
theorem rquote_ev (l : List UInt8) (hl : l.length ≤ 1000) : D 20 [.sc (.string (B l))] = some (.sc (.string (B (quoL l)))) := by
  rw [f20_eq 0]
  have := rquote_l l hl l.length 0 [34] (by omega) (by simp)
  rw [List.drop_zero] at this
  exact this
end Go.Den.EC
/- Values as numbers, texts, truths, and as they are shown: the law. -/
set_option linter.unusedVariables false
set_option linter.unusedSimpArgs false
set_option maxRecDepth 100000
namespace Go.Den.EC
open Go Go.Proofs
def asNumV (v : Vl) : Vl := if v.kind = 0 then numV 0 else if v.kind = 3 then numV (IntKind.i64.wrap (v.num * 10000)) else if v.kind = 2 then (if (readL v.text.data.toList).2 = true then numV (readL v.text.data.toList).1 else badV 2) else v
theorem B_back (t : ByteArray) : B t.data.toList = t := by rcases t with ⟨⟨l⟩⟩; rfl
theorem mayV_size {v : Vl} (h : mayV v = true) : v.text.size ≤ 256 := by
  unfold mayV at h
  have e0 : ∀ {t : ByteArray}, em t = true → t.size ≤ 256 := by
    intro t h
    rw [em_iff] at h
    rw [h]; exact Nat.zero_le _
  repeat' split at h
  · simp only [Bool.and_eq_true] at h; exact e0 h.2
  · simp only [Bool.and_eq_true] at h; exact e0 h.2
  · simp only [Bool.and_eq_true, decide_eq_true_eq] at h; omega
  · simp only [Bool.and_eq_true] at h; exact e0 h.2
  · simp only [Bool.and_eq_true] at h; exact e0 h.2
  · cases h
theorem wrap_lo (x : Int) : -9223372036854775808 ≤ IntKind.i64.wrap x := by
  simp only [IntKind.wrap, IntKind.bits, IntKind.signed]
  simp
  omega
theorem tex_len (x : Int) : (texS x).length ≤ 40 := by
  unfold texS
  by_cases h : May x
  · rw [if_pos h]
    have h1 := head_len h
    have h2 : (fracS (x.natAbs % 10000)).length ≤ 5 := by
      unfold fracS
      split
      · simp
      · have := frac_len 4 (x.natAbs % 10000)
        simp; omega
    unfold texL
    rw [List.length_append]; omega
  · rw [if_neg h]; simp
theorem strV_small {t : ByteArray} (h : (t.size : Int) ≤ 256) : strV t = ⟨2, 0, t⟩ := by
  unfold strV madeV mayV
  simp [h]
theorem rwords_ev (v : Vl) (hn : I64 v.num) : D 69 [v.pv] = some (.sc (.string (if v.kind = 1 then B (texS v.num) else if v.kind = 3 then truthT v.num else v.text))) := by
  obtain ⟨k, n, t⟩ := v
  refine (f69_eq 0 k n t).trans ?_
  dsimp only at hn ⊢
  by_cases h1 : k = 1
  · subst h1
    exact ip rfl (cb (rtext_ev hn) rfl rfl)
  refine im (by simpa using h1) ?_
  rw [if_neg h1, bA]
  unfold truthT
  by_cases h3 : k = 3
  · subst h3
    rw [if_pos rfl]
    by_cases hn1 : n = 1
    · subst hn1
      exact ip rfl rfl
    · rw [if_neg hn1]
      refine im (show ¬ (((3 : Int) == 3) && (n == 1)) = true by simp [hn1]) (ip rfl rfl)
  · rw [if_neg h3]
    refine im (show ¬ ((k == 3) && (n == 1)) = true by simp [h3]) (im (by simpa using h3) rfl)
def showV (v : Vl) : List UInt8 := if v.kind = 2 then quoL v.text.data.toList else if v.kind = 4 then (faultT v.num).data.toList else if v.kind = 1 then texS v.num else if v.kind = 3 then (truthT v.num).data.toList else []
theorem show_ev (v : Vl) (hn : I64 v.num) (hm : mayV v = true) : D 17 [v.pv] = some (.sc (.string (B (showV v)))) := by
  have hw := asText_ev v hn
  have hsz := mayV_size hm
  obtain ⟨k, n, t⟩ := v
  refine (f17_eq 0 k n t).trans ?_
  dsimp only at hn hsz ⊢
  unfold showV
  by_cases h0 : k = 0
  · subst h0
    exact ip rfl rfl
  refine im (by simpa using h0) ?_
  by_cases h2 : k = 2
  · subst h2
    have hq := quote_ev t.data.toList (by show t.size ≤ _; omega)
    rw [B_back] at hq
    exact ip rfl (cb hq rfl rfl)
  refine im (by simpa using h2) ?_
  by_cases h4 : k = 4
  · subst h4
    refine ip rfl (cb (fault_ev n) rfl ?_)
    rw [if_neg (show ¬ (4 : Int) = 2 by decide), if_pos rfl, B_back]; rfl
  refine im (by simpa using h4) (cb hw rfl ?_)
  show some (PV.sc (.string (asTextV ⟨k, n, t⟩).text)) = _
  rw [if_neg h2, if_neg h4]
  by_cases h1 : k = 1
  · subst h1
    rw [if_pos rfl]
    have hl : (texS n).length ≤ 256 := by
      have := tex_len n
      omega
    have e : asTextV ⟨1, n, t⟩ = strV (B (texS n)) := rfl
    rw [e, strV_small (by rw [B_size]; omega)]
  by_cases h3 : k = 3
  · subst h3
    have e : asTextV ⟨3, n, t⟩ = strV (truthT n) := rfl
    have hs : ((truthT n).size : Int) ≤ 256 := by unfold truthT; split <;> decide
    rw [e, strV_small hs, if_neg (show ¬ (3 : Int) = 1 by decide), if_pos rfl, B_back]
  · exfalso
    unfold mayV at hm
    simp [h0, h1, h2, h3, h4] at hm
theorem rshow_ev (v : Vl) (hn : I64 v.num) (hm : mayV v = true) : D 18 [v.pv] = some (.sc (.string (B (showV v)))) := by
  have hw := rwords_ev v hn
  have hsz := mayV_size hm
  obtain ⟨k, n, t⟩ := v
  refine (f18_eq 0 k n t).trans ?_
  dsimp only at hn hsz hw ⊢
  unfold showV
  by_cases h2 : k = 2
  · subst h2
    have hq := rquote_ev t.data.toList (by show t.size ≤ _; omega)
    rw [B_back] at hq
    exact ip rfl (cb hq rfl rfl)
  refine im (by simpa using h2) ?_
  by_cases h4 : k = 4
  · subst h4
    refine ip rfl (cb (rfault_ev n) rfl ?_)
    rw [if_neg (show ¬ (4 : Int) = 2 by decide), if_pos rfl, B_back]; rfl
  refine im (by simpa using h4) (cb hw rfl ?_)
  show some (PV.sc (.string _)) = _
  rw [if_neg h2, if_neg h4]
  by_cases h1 : k = 1
  · rw [if_pos h1, if_pos h1]; rfl
  by_cases h3 : k = 3
  · rw [if_neg h1, if_pos h3, if_neg h1, if_pos h3, B_back]; rfl
  · rw [if_neg h1, if_neg h3, if_neg h1, if_neg h3]
    have h0 : k = 0 := by
      apply Classical.byContradiction
      intro h0
      unfold mayV at hm
      simp [h0, h1, h2, h3, h4] at hm
    subst h0
    have e : t = E := by
      unfold mayV at hm
      simp only [if_true, Bool.and_eq_true] at hm
      exact em_iff.1 hm.2
    subst e; rfl
end Go.Den.EC
/- A text, cut at its blanks: the plain part. -/
set_option linter.unusedVariables false
set_option linter.unusedSimpArgs false
namespace Go.Den
open Go Go.Proofs
/-- A text, cut at its blanks. -/
def spl : List UInt8 → List (List UInt8)
  | [] => [[]]
  | b :: l => if b = 32 then [] :: spl l else match spl l with
    | h :: t => (b :: h) :: t
    | [] => [[b]]
theorem spl_ne : ∀ l, ∃ h t, spl l = h :: t
  | [] => ⟨_, _, rfl⟩
  | b :: l => by
    unfold spl
    split
    · exact ⟨_, _, rfl⟩
    · obtain ⟨h, t, e⟩ := spl_ne l
      rw [e]; exact ⟨_, _, rfl⟩
theorem spl_cons {b : UInt8} (hb : b ≠ 32) {l h : List UInt8} {t : List (List UInt8)} (e : spl l = h :: t) : spl (b :: l) = (b :: h) :: t := by
  unfold spl; rw [if_neg hb, e]
theorem spl_blank (l : List UInt8) : spl (32 :: l) = [] :: spl l := by
  conv => lhs; unfold spl
  rfl
theorem splitK_eq : ∀ l : List UInt8, Lib.splitK [32] 0 (Lib.count l [32]) l = spl l
  | [] => by
    rw [Lib.count_miss (by rfl)]; rfl
  | b :: l => by
    by_cases hb : b = 32
    · subst hb
      have hix : Lib.index (32 :: l) [32] = ((0 : Nat) : Int) := by rw [Lib.index]; simp [List.isPrefixOf]
      rw [Lib.count_cons_eq, Nat.add_comm, Lib.splitK, if_neg (by rw [hix]; decide), hix, spl_blank, ← splitK_eq l]
      rfl
    · have hp : ([32] : List UInt8).isPrefixOf (b :: l) = false := by simp [List.isPrefixOf, Ne.symm hb]
      have hix : Lib.index (b :: l) [32] = if Lib.index l [32] == -1 then -1 else Lib.index l [32] + 1 := by rw [Lib.index, hp]; simp
      have ih := splitK_eq l
      rw [Lib.count_cons_ne b 32 l hb]
      by_cases hm : Lib.index l [32] = -1
      · rw [Lib.count_miss hm] at ih ⊢
        rw [spl_cons hb (h := l) (t := []) ih.symm]; rfl
      · have hge := Lib.index_ge l [32]
        obtain ⟨j, hj⟩ : ∃ j : Nat, Lib.index l [32] = j := ⟨(Lib.index l [32]).toNat, by omega⟩
        have hix' : Lib.index (b :: l) [32] = ((j + 1 : Nat) : Int) := by rw [hix, if_neg (by rw [hj]; simp <;> omega), hj]; omega
        rw [Lib.count_hit (by simp) hj, Nat.add_comm] at ih ⊢
        rw [Lib.splitK, if_neg (by rw [hj]; simp <;> omega), hj] at ih
        rw [Lib.splitK, if_neg (by rw [hix']; simp <;> omega), hix']
        rw [spl_cons hb ih.symm]
        rfl
theorem splitB_spl (l : List UInt8) : Lib.splitB (B [32]) 0 (Lib.countB (B l) (B [32])) (B l) = (spl l).map B := by
  have h := Lib.splitB_data (B [32]) 0 (Lib.countB (B l) (B [32])) (B l)
  have e : Lib.splitK (B [32]).data.toList 0 (Lib.countB (B l) (B [32])) (B l).data.toList = spl l := splitK_eq l
  rw [e] at h
  rw [← h, List.map_map]
  conv => lhs; rw [← List.map_id (Lib.splitB (B [32]) 0 (Lib.countB (B l) (B [32])) (B l))]
  apply List.map_congr_left
  intro s _
  rcases s with ⟨⟨s⟩⟩
  rfl
theorem spl_no : ∀ (l : List UInt8) (w : List UInt8), w ∈ spl l → (32 : UInt8) ∉ w
  | [], w, h => by
    have : w = [] := by simpa [spl] using h
    subst this; simp
  | b :: l, w, h => by
    by_cases hb : b = 32
    · subst hb
      rw [spl_blank] at h
      rcases List.mem_cons.1 h with rfl | h
      · simp
      · exact spl_no l w h
    · obtain ⟨h0, t0, e0⟩ := spl_ne l
      rw [spl_cons hb e0] at h
      have ih := spl_no l
      rw [e0] at ih
      rcases List.mem_cons.1 h with rfl | h
      · intro hm
        rcases List.mem_cons.1 hm with hm | hm
        · exact hb hm.symm
        · exact ih h0 List.mem_cons_self hm
      · exact ih w (List.mem_cons_of_mem _ h)
theorem spl_word : ∀ (w r : List UInt8), (32 : UInt8) ∉ w → spl (w ++ 32 :: r) = w :: spl r
  | [], r, _ => spl_blank r
  | b :: w, r, h => by
    have hb : b ≠ 32 := fun e => h (by rw [e]; exact List.mem_cons_self)
    rw [List.cons_append]
    exact spl_cons hb (spl_word w r fun hm => h (List.mem_cons_of_mem _ hm))
theorem spl_last : ∀ w : List UInt8, (32 : UInt8) ∉ w → spl w = [w]
  | [], _ => rfl
  | b :: w, h => by
    have hb : b ≠ 32 := fun e => h (by rw [e]; exact List.mem_cons_self)
    exact spl_cons hb (spl_last w fun hm => h (List.mem_cons_of_mem _ hm))
theorem spl_len : ∀ l : List UInt8, (spl l).flatten.length + (spl l).length = l.length + 1
  | [] => rfl
  | b :: l => by
    have ih := spl_len l
    by_cases hb : b = 32
    · subst hb
      rw [spl_blank, List.flatten_cons, List.nil_append, List.length_cons, List.length_cons]; omega
    · obtain ⟨h0, t0, e0⟩ := spl_ne l
      rw [spl_cons hb e0]
      rw [e0] at ih
      simp only [List.flatten_cons, List.length_append, List.length_cons] at ih ⊢
      omega
/-- The words of what is left, the first one begun. -/
def spA (a : List UInt8) (l : List UInt8) : List (List UInt8) := match spl l with
  | h :: t => (a ++ h) :: t
  | [] => [a]
theorem spA_nil (l : List UInt8) : spA [] l = spl l := by
  obtain ⟨h, t, e⟩ := spl_ne l
  unfold spA; rw [e]; rfl
theorem spA_end (a : List UInt8) : spA a [] = [a] := by
  unfold spA; rw [spl]; simp
theorem spA_blank (a l : List UInt8) : spA a (32 :: l) = a :: spl l := by
  unfold spA; rw [spl_blank]; simp
theorem spA_cons (a : List UInt8) {b : UInt8} (hb : b ≠ 32) (l : List UInt8) : spA a (b :: l) = spA (a ++ [b]) l := by
  obtain ⟨h, t, e⟩ := spl_ne l
  unfold spA; rw [spl_cons hb e, e]; simp
theorem spl_w {w r : List UInt8} (h : (32 : UInt8) ∉ w) : spl (w ++ ([32] ++ r)) = w :: spl r := spl_word w r h
theorem dd_no (n : Nat) : (32 : UInt8) ∉ Lib.decDigits n := by
  intro h
  have := List.all_eq_true.1 (dd_all n) _ h
  revert this; decide
end Go.Den
/- Counts as texts; texts cut at blanks: what the program's functions answer. -/
set_option linter.unusedVariables false
set_option linter.unusedSimpArgs false
set_option maxRecDepth 100000
namespace Go.Den.EC
open Go Go.Proofs
def okS (n : Int) : Bool := decide (0 ≤ n) && decide (n ≤ 1000000000)
def dS (n : Int) : List UInt8 := Lib.decDigits n.toNat
theorem okS_iff {n : Int} : okS n = true ↔ 0 ≤ n ∧ n ≤ 1000000000 := by unfold okS; simp
theorem dS_len {n : Int} (h : okS n = true) : (dS n).length ≤ 10 := by
  rw [okS_iff] at h
  exact dd_len 9 n.toNat (by omega)
theorem okS_bad {n : Int} (h : ¬ okS n = true) : (decide (n < 0) || decide (n > 1000000000)) = true := by
  rw [okS_iff] at h
  rw [Bool.or_eq_true, decide_eq_true_eq, decide_eq_true_eq]; omega
theorem okS_good {n : Int} (h : okS n = true) : ¬ (decide (n < 0) || decide (n > 1000000000)) = true := by
  rw [okS_iff] at h
  rw [Bool.or_eq_true, decide_eq_true_eq, decide_eq_true_eq]; omega
theorem text_okS {n : Int} (h : okS n = true) : D 64 [.sc (.int .i64 (IntKind.i64.wrap (n * 10000)))] = some (.sc (.string (B (dS n)))) := by
  rw [okS_iff] at h
  exact count_ev h.1 h.2
theorem digits_okS {n : Int} (h : okS n = true) : D 77 [.sc (.int .i64 n)] = some (.sc (.string (B (dS n)))) := by
  rw [okS_iff] at h
  exact digits_ev h.1 (by omega)
theorem tex_dS {n : Int} (h : okS n = true) : texS (n * 10000) = dS n := by
  rw [okS_iff] at h
  have e1 : (n * 10000).natAbs / 10000 = n.toNat := by omega
  have e2 : (n * 10000).natAbs % 10000 = 0 := by omega
  unfold texS texL
  rw [if_pos (by unfold May; omega), if_neg (by omega), List.nil_append, e1, e2]
  simp [fracS, dS]
theorem dS_no (n : Int) : (32 : UInt8) ∉ dS n := dd_no _
theorem dS_inj {a b : Int} (ha : okS a = true) (hb : okS b = true) (h : dS a = dS b) : a = b := by
  rw [okS_iff] at ha hb
  have h1 := dd_val a.toNat
  have h2 := dd_val b.toNat
  have : a.toNat = b.toNat := by rw [← h1, ← h2]; exact congrArg (fun z => valL z 0) h
  omega
/-- A count that is read. -/
theorem cnt_read (w : List UInt8) (hw : w.length ≤ 1000000) : ∃ g : Int × Bool, D 85 [.sc (.string (B w))] = some (pvG g) ∧ ((g.2 = true ∧ 0 ≤ g.1 ∧ g.1.tmod 10000 = 0 ∧ (0 ≤ g.1.tdiv 10000 ∧ g.1.tdiv 10000 ≤ 922337203685477) ∧ ∀ n, okS n = true → w = dS n → g.1.tdiv 10000 = n) ∨ ((g.2 = false ∨ g.1 < 0 ∨ g.1.tmod 10000 ≠ 0) ∧ ∀ n, okS n = true → w ≠ dS n)) := by
  refine ⟨parseL w, parse_ev hw, ?_⟩
  have key : ∀ n, okS n = true → w = dS n → parseL w = (n * 10000, true) := by
    intro n hn e
    have h := hn
    rw [okS_iff] at h
    rw [e, ← tex_dS hn, parse_texS (by unfold I64; omega), if_pos (by unfold May; omega)]
  by_cases h : (parseL w).2 = true ∧ 0 ≤ (parseL w).1 ∧ (parseL w).1.tmod 10000 = 0
  · left
    obtain ⟨h1, h2, h3⟩ := h
    have hm : (parseL w).1 ≤ 9223372036854775807 := by
      unfold parseL at h1 ⊢
      split at h1
      · rename_i hh
        rw [if_pos hh]
        exact (read_ok (l := w)).1.2
      · cases h1
    have e := Int.tdiv_eq_ediv_of_nonneg (b := 10000) h2
    refine ⟨h1, h2, h3, by rw [e]; omega, ?_⟩
    intro n hn hw
    rw [key n hn hw]
    show Int.tdiv (n * 10000) 10000 = n
    rw [okS_iff] at hn
    rw [Int.tdiv_eq_ediv_of_nonneg (by omega)]; omega
  · right
    refine ⟨?_, ?_⟩
    · by_cases h1 : (parseL w).2 = true
      · right
        by_cases h2 : 0 ≤ (parseL w).1
        · right; intro h3; exact h ⟨h1, h2, h3⟩
        · left; omega
      · left; simpa using h1
    · intro n hn e
      have k := key n hn e
      rw [k] at h
      rw [okS_iff] at hn
      refine h ⟨rfl, by show 0 ≤ n * 10000; omega, ?_⟩
      show Int.tmod (n * 10000) 10000 = 0
      rw [Int.tmod_eq_emod_of_nonneg (by omega)]; omega
def wp (ws : List (List UInt8)) : List PV := ws.map fun w => .sc (.string (B w))
theorem wp_len (ws : List (List UInt8)) : (wp ws).length = ws.length := by simp [wp]
theorem wp_get {ws : List (List UInt8)} {i : Nat} (h : i < ws.length) : (wp ws).getD i .top = .sc (.string (B ws[i])) := by simp [wp, h]
theorem wp_sh {ws : List (List UInt8)} {i : Nat} (h : i < ws.length) : hasSh .str ((wp ws).getD i .top) = true := by rw [wp_get h]; rfl
theorem bt32w {l : List UInt8} {i : Nat} (h : i < l.length) : (bt (B l) (i : Int) == 32) = (l[i] == 32) := by
  rw [B_bt h, Bool.eq_iff_iff, beq_iff_eq, beq_iff_eq]
  constructor
  · intro e; exact UInt8.toNat_inj.1 (by show l[i].toNat = 32; omega)
  · intro e; rw [e]; rfl
theorem acc_step {l : List UInt8} {fr i : Nat} (hf : fr ≤ i) (hi : i < l.length) : (l.drop fr).take (i + 1 - fr) = (l.drop fr).take (i - fr) ++ [l[i]] := by
  rw [show i + 1 - fr = (i - fr) + 1 by omega, List.take_add_one, List.getElem?_drop, show fr + (i - fr) = i by omega, List.getElem?_eq_getElem hi]; rfl
end Go.Den.EC
/- Counts of rows, as the program and the reference tell them. -/
set_option linter.unusedVariables false
set_option linter.unusedSimpArgs false
set_option maxRecDepth 100000
namespace Go.Den.EC
open Go Go.Proofs
structure Rw where
  row : Int
  col : Int
  text : ByteArray
  hidden : Bool
  kind : Int
  num : Int
  vtext : ByteArray
abbrev shR : Sh := .agg [(.int .i64), (.int .i64), .str, .bool, (.int .i64), (.int .i64), .str]
def Rw.pv (r : Rw) : PV := .agg [.sc (.int .i64 r.row), .sc (.int .i64 r.col), .sc (.string r.text), .sc (.bool r.hidden), .sc (.int .i64 r.kind), .sc (.int .i64 r.num), .sc (.string r.vtext)]
theorem Rw.fold (a b : Int) (c : ByteArray) (d : Bool) (e f : Int) (g : ByteArray) : PV.agg [.sc (.int .i64 a), .sc (.int .i64 b), .sc (.string c), .sc (.bool d), .sc (.int .i64 e), .sc (.int .i64 f), .sc (.string g)] = (Rw.mk a b c d e f g).pv := rfl
theorem Rw.sh (r : Rw) : hasSh shR r.pv = true := rfl
theorem Rw.c0 (r : Rw) : (cel 0 r.pv.cells).toInt = r.row := rfl
theorem Rw.c1 (r : Rw) : (cel 1 r.pv.cells).toInt = r.col := rfl
theorem Rw.c2 (r : Rw) : (cel 2 r.pv.cells).toStr = r.text := rfl
theorem Rw.c3 (r : Rw) : (cel 3 r.pv.cells).toBool = r.hidden := rfl
theorem Rw.c4 (r : Rw) : (cel 4 r.pv.cells).toInt = r.kind := rfl
theorem Rw.c5 (r : Rw) : (cel 5 r.pv.cells).toInt = r.num := rfl
theorem Rw.c6 (r : Rw) : (cel 6 r.pv.cells).toStr = r.vtext := rfl
theorem Rw.rb (r : Rw) : Rw.mk r.row r.col r.text r.hidden r.kind r.num r.vtext = r := rfl
def rpv (l : List Rw) : List PV := l.map Rw.pv
theorem rpv_len (l : List Rw) : (rpv l).length = l.length := by simp [rpv]
theorem rpv_get {l : List Rw} {i : Nat} (h : i < l.length) : (rpv l).getD i .top = l[i].pv := by simp [rpv, h]
def kindR (r : Rw) : Nat := if r.hidden = true then 1 else if r.kind = 0 then 2 else if r.kind = 1 then 3 else if r.kind = 2 then 4 else if r.kind = 3 then 5 else if r.kind = 4 then (if r.num = 7 then 7 else 6) else 0
def cnt (l : List Rw) (k : Nat) : Nat := match l with
  | [] => 0
  | r :: l => cnt l k + if kindR r = k then 1 else 0
theorem cnt_cons (r : Rw) (l : List Rw) (k : Nat) : cnt (r :: l) k = cnt l k + if kindR r = k then 1 else 0 := rfl
theorem cnt_app (a b : List Rw) (k : Nat) : cnt (a ++ b) k = cnt a k + cnt b k := by
  induction a with
  | nil => simp [cnt]
  | cons r a ih => rw [List.cons_append, cnt_cons, cnt_cons, ih]; omega
theorem cnt_rev (a : List Rw) (k : Nat) : cnt a.reverse k = cnt a k := by
  induction a with
  | nil => rfl
  | cons r a ih => rw [List.reverse_cons, cnt_app, cnt_cons, ih, cnt_cons]; simp [cnt]
theorem cnt_le (a : List Rw) (k : Nat) : cnt a k ≤ a.length := by
  induction a with
  | nil => exact Nat.le_refl _
  | cons r a ih => rw [cnt_cons, List.length_cons]; split <;> omega
structure S8 where
  a : Int
  b : Int
  c : Int
  d : Int
  e : Int
  f : Int
  g : Int
  h : Int
def S8.pv (v : S8) : PV := .agg [.sc (.int .i64 v.a), .sc (.int .i64 v.b), .sc (.int .i64 v.c), .sc (.int .i64 v.d), .sc (.int .i64 v.e), .sc (.int .i64 v.f), .sc (.int .i64 v.g), .sc (.int .i64 v.h)]
theorem S8.fold (a b c d e f g h : Int) : PV.agg [.sc (.int .i64 a), .sc (.int .i64 b), .sc (.int .i64 c), .sc (.int .i64 d), .sc (.int .i64 e), .sc (.int .i64 f), .sc (.int .i64 g), .sc (.int .i64 h)] = (S8.mk a b c d e f g h).pv := rfl
theorem S8.sh (v : S8) : hasSh (.agg [(.int .i64), (.int .i64), (.int .i64), (.int .i64), (.int .i64), (.int .i64), (.int .i64), (.int .i64)]) v.pv = true := rfl
theorem S8.c0 (v : S8) : (cel 0 v.pv.cells).toInt = v.a := rfl
theorem S8.c1 (v : S8) : (cel 1 v.pv.cells).toInt = v.b := rfl
theorem S8.c2 (v : S8) : (cel 2 v.pv.cells).toInt = v.c := rfl
theorem S8.c3 (v : S8) : (cel 3 v.pv.cells).toInt = v.d := rfl
theorem S8.c4 (v : S8) : (cel 4 v.pv.cells).toInt = v.e := rfl
theorem S8.c5 (v : S8) : (cel 5 v.pv.cells).toInt = v.f := rfl
theorem S8.c6 (v : S8) : (cel 6 v.pv.cells).toInt = v.g := rfl
theorem S8.c7 (v : S8) : (cel 7 v.pv.cells).toInt = v.h := rfl
theorem S8.rb (v : S8) : S8.mk v.a v.b v.c v.d v.e v.f v.g v.h = v := rfl
theorem S8.congr {a b c d e f g h a' b' c' d' e' f' g' h' : Int} (h0 : a = a') (h1 : b = b') (h2 : c = c') (h3 : d = d') (h4 : e = e') (h5 : f = f') (h6 : g = g') (h7 : h = h') : some (S8.mk a b c d e f g h).pv = some (S8.mk a' b' c' d' e' f' g' h').pv := by
  rw [h0, h1, h2, h3, h4, h5, h6, h7]
def ofR (l : List Rw) : S8 := ⟨l.length, cnt l 1, cnt l 2, cnt l 3, cnt l 4, cnt l 5, cnt l 6, cnt l 7⟩
theorem w1 {s : Int} (h0 : 0 ≤ s) (h1 : s ≤ 1000000) : IntKind.i64.wrap (s + 1) = s + 1 := w64 (by omega) (by omega)
theorem next_i (i : Nat) (h : i ≤ 1000000) : IntKind.i64.wrap ((i : Int) + 1) = ((i + 1 : Nat) : Int) := by rw [w1 (by omega) (by omega)]; rfl
theorem of_rev (a : List Rw) : ofR a.reverse = ofR a := by simp [ofR, cnt_rev]
theorem of_comm (a b : List Rw) : ofR (a ++ b) = ofR (b ++ a) := by
  simp only [ofR, cnt_app, List.length_append]
  simp only [Nat.add_comm]
def q0 : List UInt8 := [99, 101, 108, 108, 115]
theorem q0_len : q0.length = 5 := rfl
def q1 : List UInt8 := [104, 105, 100, 100, 101, 110]
theorem q1_len : q1.length = 6 := rfl
def q2 : List UInt8 := [98, 108, 97, 110, 107, 115]
theorem q2_len : q2.length = 6 := rfl
def q3 : List UInt8 := [110, 117, 109, 98, 101, 114, 115]
theorem q3_len : q3.length = 7 := rfl
def q4 : List UInt8 := [116, 101, 120, 116, 115]
theorem q4_len : q4.length = 5 := rfl
def q5 : List UInt8 := [116, 114, 117, 116, 104, 115]
theorem q5_len : q5.length = 6 := rfl
def q6 : List UInt8 := [102, 97, 117, 108, 116, 115]
theorem q6_len : q6.length = 6 := rfl
def q7 : List UInt8 := [99, 121, 99, 108, 101, 115]
theorem q7_len : q7.length = 6 := rfl
def WS : List ByteArray := [B q0, B q1, B q2, B q3, B q4, B q5, B q6, B q7]
def WF : Nat → PV := fun i => (WS.map fun s => PV.sc (.string s)).getD i .top
def all8 (n0 n1 n2 n3 n4 n5 n6 n7 : Int) : Bool := okS n0 && okS n1 && okS n2 && okS n3 && okS n4 && okS n5 && okS n6 && okS n7
def outs (n0 n1 n2 n3 n4 n5 n6 n7 : Int) : List ByteArray := [B q0, B (dS n0), B q1, B (dS n1), B q2, B (dS n2), B q3, B (dS n3), B q4, B (dS n4), B q5, B (dS n5), B q6, B (dS n6), B q7, B (dS n7)]
def tL (n0 n1 n2 n3 n4 n5 n6 n7 : Int) : List UInt8 := q0 ++ [32] ++ dS n0 ++ [32] ++ q1 ++ [32] ++ dS n1 ++ [32] ++ q2 ++ [32] ++ dS n2 ++ [32] ++ q3 ++ [32] ++ dS n3 ++ [32] ++ q4 ++ [32] ++ dS n4 ++ [32] ++ q5 ++ [32] ++ dS n5 ++ [32] ++ q6 ++ [32] ++ dS n6 ++ [32] ++ q7 ++ [32] ++ dS n7
theorem tL_join (n0 n1 n2 n3 n4 n5 n6 n7 : Int) : Lib.join ((outs n0 n1 n2 n3 n4 n5 n6 n7).map (·.data.toList)) [32] = tL n0 n1 n2 n3 n4 n5 n6 n7 := by
  unfold outs tL Lib.join
  simp only [List.map_cons, List.map_nil, B_data]
  simp [List.intercalate, List.intersperse]
theorem tL_len (n0 n1 n2 n3 n4 n5 n6 n7 : Int) (h : all8 n0 n1 n2 n3 n4 n5 n6 n7 = true) : (tL n0 n1 n2 n3 n4 n5 n6 n7).length ≤ 1000 := by
  unfold all8 at h
  simp only [Bool.and_eq_true] at h
  obtain ⟨⟨⟨⟨⟨⟨⟨h0, h1⟩, h2⟩, h3⟩, h4⟩, h5⟩, h6⟩, h7⟩ := h
  have := dS_len h0
  have := dS_len h1
  have := dS_len h2
  have := dS_len h3
  have := dS_len h4
  have := dS_len h5
  have := dS_len h6
  have := dS_len h7
  unfold tL
  simp only [List.length_append, List.length_cons, List.length_nil, q0_len, q1_len, q2_len, q3_len, q4_len, q5_len, q6_len, q7_len]
  omega
theorem jn (x t : PV) : D 79 [x, t] = xJoin [x, t] := (denI_eq 0 _ _).trans (by kernel_rfl)
theorem join_ev (n0 n1 n2 n3 n4 n5 n6 n7 : Int) (h : all8 n0 n1 n2 n3 n4 n5 n6 n7 = true) : D 79 [frozen 1 ((outs n0 n1 n2 n3 n4 n5 n6 n7).map fun s => PV.sc (.string s)), .sc (.string (⟨#[32]⟩ : ByteArray))] = some (.sc (.string (B (tL n0 n1 n2 n3 n4 n5 n6 n7)))) := by
  rw [jn]
  unfold xJoin frozen
  show (if _ ∧ _ ∧ _ then _ else _) = _
  have ej : joinArgs ((outs n0 n1 n2 n3 n4 n5 n6 n7).map fun s => PV.sc (.string s)).length (fun i => ((outs n0 n1 n2 n3 n4 n5 n6 n7).map fun s => PV.sc (.string s)).getD i .top) = outs n0 n1 n2 n3 n4 n5 n6 n7 := rfl
  have e32 : (⟨#[32]⟩ : ByteArray).data.toList = [32] := rfl
  rw [ej, e32, tL_join]
  have := tL_len n0 n1 n2 n3 n4 n5 n6 n7 h
  exact if_pos ⟨by simp [outs], rfl, by omega⟩
def textS (s : S8) : ByteArray := if all8 s.a s.b s.c s.d s.e s.f s.g s.h = true then B (tL s.a s.b s.c s.d s.e s.f s.g s.h) else ⟨#[]⟩
def NP (n0 n1 n2 n3 n4 n5 n6 n7 : Int) : List PV := [.sc (.int .i64 n0), .sc (.int .i64 n1), .sc (.int .i64 n2), .sc (.int .i64 n3), .sc (.int .i64 n4), .sc (.int .i64 n5), .sc (.int .i64 n6), .sc (.int .i64 n7)]
def NM : List PV := WS.map fun s => PV.sc (.string s)
end Go.Den.EC
/- Rows and changes as texts: both. -/
set_option linter.unusedVariables false
set_option linter.unusedSimpArgs false
set_option maxRecDepth 100000
namespace Go.Den.EC
open Go Go.Proofs
theorem alive45_ev : D 21 [] = some (.sc (.bool true)) := denI_of (k := 100) (by kernel_rfl)
def okA (r c : Int) : Bool := (decide (r ≥ 0) && decide (r < 999)) && decide (c ≥ 0) && decide (c < 702)
theorem okA_iff {r c : Int} : okA r c = true ↔ (0 ≤ r ∧ r < 999) ∧ (0 ≤ c ∧ c < 702) := by
  unfold okA
  simp only [Bool.and_eq_true, decide_eq_true_eq]
  omega
theorem amay_ev (r c : Int) : D 151 [.agg [.sc (.int .i64 r), .sc (.int .i64 c)]] = some (.sc (.bool (okA r c))) := by
  rw [f151_eq 0]
  simp only [bA, bs, tb]
  rfl
theorem ramay_ev (r c : Int) : D 156 [.agg [.sc (.int .i64 r), .sc (.int .i64 c)]] = some (.sc (.bool (okA r c))) := by
  rw [f156_eq 0]
  simp only [bA, bs, tb]
  have e1 : decide (r ≤ 998) = decide (r < 999) := decide_eq_decide.2 (by omega)
  have e2 : decide (c ≤ 701) = decide (c < 702) := decide_eq_decide.2 (by omega)
  rw [e1, e2]
  rfl
def letC (c : Int) : List PV := if c < 26 then [.sc (.int .u8 (IntKind.u8.wrap (IntKind.i64.wrap ((65 : Int) + c))))] else [.sc (.int .u8 (IntKind.u8.wrap (IntKind.i64.wrap ((64 : Int) + (IntKind.i64.wrap (c.tdiv 26)))))), .sc (.int .u8 (IntKind.u8.wrap (IntKind.i64.wrap ((65 : Int) + (c.tmod 26)))))]
def letB (c : Int) : ByteArray := bytesOf (letC c)
theorem letB_size (c : Int) : (letB c).size ≤ 2 := by
  have h : ∀ l : List PV, (bytesOf l).size = l.length := by
    intro l
    show ((l.map fun x => UInt8.ofNat x.toInt.toNat).toArray).size = l.length
    simp
  unfold letB
  rw [h]
  unfold letC
  split <;> simp
theorem letters_ev (c : Int) (h0 : 0 ≤ c) (h1 : c < 702) : D 152 [.sc (.int .i64 c)] = some (.sc (.string (letB c))) := by
  rw [f152_eq 0, bO]
  refine im (by rw [tb, Bool.or_eq_true, decide_eq_true_eq, decide_eq_true_eq]; omega) ?_
  unfold letB letC
  by_cases h : c < 26
  · rw [if_pos h]
    exact ip (decide_eq_true h) (ip rfl rfl)
  · rw [if_neg h]
    refine im (by rw [decide_eq_true_eq]; exact h) (ip rfl ?_)
    have e : c.tdiv 26 = c / 26 := Int.tdiv_eq_ediv_of_nonneg h0
    rw [e, w64 (x := c / 26) (by omega) (by omega), w64 (x := 65 + c / 26) (by omega) (by omega), w64 (x := 65 + c / 26 - 1) (by omega) (by omega), w64 (x := 64 + c / 26) (by omega) (by omega), show 65 + c / 26 - 1 = 64 + c / 26 by omega]
theorem rletters_ev (c : Int) (h0 : 0 ≤ c) (h1 : c < 702) : D 157 [.sc (.int .i64 c)] = some (.sc (.string (letB c))) := by
  rw [f157_eq 0, bO]
  refine im (by rw [tb, Bool.or_eq_true, decide_eq_true_eq, decide_eq_true_eq]; omega) ?_
  unfold letB letC
  by_cases h : c < 26
  · rw [if_pos h]
    exact ip (decide_eq_true h) (ip rfl rfl)
  · rw [if_neg h]
    exact im (by rw [decide_eq_true_eq]; exact h) (ip rfl rfl)
theorem itoa_ev {n : Int} (h : I64 n) : D 153 [.sc (.int .i64 n)] = some (.sc (.string (B (Lib.itoa n)))) := by
  have e : D 153 [.sc (.int .i64 n)] = xItoa [.sc (.int .i64 n)] := (denI_eq 0 _ _).trans (by kernel_rfl)
  rw [e]
  unfold xItoa
  exact if_pos ⟨h.1, h.2⟩
def nameB (r c : Int) : ByteArray := if okA r c = true then letB c ++ B (dS (r + 1)) else ⟨#[]⟩
theorem size_app (s t : ByteArray) : (s ++ t).size = s.size + t.size := by simp
theorem nameB_size (r c : Int) : (nameB r c).size ≤ 12 := by
  unfold nameB
  by_cases h : okA r c = true
  · rw [if_pos h, size_app, B_size]
    have h1 := letB_size c
    have h2 := okA_iff.1 h
    have h3 := dS_len (n := r + 1) (by rw [okS_iff]; omega)
    omega
  · rw [if_neg h]; exact Nat.zero_le _
theorem name_ev (r c : Int) : D 114 [.agg [.sc (.int .i64 r), .sc (.int .i64 c)]] = some (.sc (.string (nameB r c))) := by
  rw [f114_eq 0]
  refine cb (amay_ev r c) rfl ?_
  unfold nameB
  by_cases h : okA r c = true
  · have h2 := okA_iff.1 h
    have ho : okS (r + 1) = true := by rw [okS_iff]; omega
    rw [if_pos h, w64 (by omega) (by omega)]
    have hi := itoa_ev (n := r + 1) (by unfold I64; omega)
    have ei : Lib.itoa (r + 1) = dS (r + 1) := by
      have := itoa_nat (r + 1).toNat
      rw [Int.toNat_of_nonneg (by omega)] at this
      exact this
    rw [ei] at hi
    refine im (show ¬ (!okA r c) = true by rw [h]; decide) (cb (letters_ev c (by omega) (by omega)) rfl (cb hi rfl (ip ?_ rfl)))
    have h1 := letB_size c
    have h3 := dS_len ho
    simp only [ts, B_size]; omega
  · rw [if_neg h]
    exact ip (show (!okA r c) = true by simpa using h) rfl
theorem rname_ev (r c : Int) : D 118 [.agg [.sc (.int .i64 r), .sc (.int .i64 c)]] = some (.sc (.string (nameB r c))) := by
  rw [f118_eq 0]
  refine cb (ramay_ev r c) rfl ?_
  unfold nameB
  by_cases h : okA r c = true
  · have h2 := okA_iff.1 h
    have ho : okS (r + 1) = true := by rw [okS_iff]; omega
    rw [if_pos h, w64 (by omega) (by omega)]
    refine im (show ¬ (!okA r c) = true by rw [h]; decide) (cb (rletters_ev c (by omega) (by omega)) rfl (cb (digits_okS ho) rfl (ip ?_ rfl)))
    have h1 := letB_size c
    have h3 := dS_len ho
    simp only [ts, B_size]; omega
  · rw [if_neg h]
    exact ip (show (!okA r c) = true by simpa using h) rfl
def Rw.v (r : Rw) : Vl := ⟨r.kind, r.num, r.vtext⟩
/-- Rows that the law speaks of. -/
def smR (r : Rw) : Bool := mayV r.v && decide (r.text.size ≤ 300)
def goR (r : Rw) : Prop := I64 r.num
theorem showV_len {v : Vl} (h : mayV v = true) : (showV v).length ≤ 600 := by
  have hs := mayV_size h
  unfold showV
  repeat' split
  · have := dbl_len v.text.data.toList
    have e : v.text.data.toList.length = v.text.size := rfl
    unfold quoL; simp; omega
  · unfold faultT
    repeat' split
    all_goals decide
  · have := tex_len v.num; omega
  · unfold truthT
    split <;> decide
  · simp
def rowB (r : Rw) : ByteArray := (((nameB r.row r.col ++ (⟨#[32]⟩ : ByteArray)) ++ r.text) ++ (⟨#[32, 61, 32]⟩ : ByteArray)) ++ (if r.hidden = true then (⟨#[63]⟩ : ByteArray) else B (showV r.v))
theorem rowB_size {r : Rw} (h : smR r = true) : (rowB r).size ≤ 1000 := by
  unfold smR at h
  simp only [Bool.and_eq_true, decide_eq_true_eq] at h
  have h1 := nameB_size r.row r.col
  have h2 := showV_len h.1
  have h3 := h.2
  unfold rowB
  simp only [size_app]
  have e1 : (⟨#[32]⟩ : ByteArray).size = 1 := rfl
  have e2 : (⟨#[32, 61, 32]⟩ : ByteArray).size = 3 := rfl
  have e3 : (⟨#[63]⟩ : ByteArray).size = 1 := rfl
  split
  · omega
  · rw [B_size]; omega
theorem vtext_ev (r : Rw) (h : smR r = true) (hn : goR r) : D 78 [r.pv] = some (.sc (.string (rowB r))) := by
  have hs := h
  unfold smR at hs
  simp only [Bool.and_eq_true, decide_eq_true_eq] at hs
  have hsh := show_ev r.v hn hs.1
  have h1 := nameB_size r.row r.col
  have h2 := showV_len hs.1
  have e1 : (⟨#[32]⟩ : ByteArray).size = 1 := rfl
  have e2 : (⟨#[32, 61, 32]⟩ : ByteArray).size = 3 := rfl
  have e3 : (⟨#[63]⟩ : ByteArray).size = 1 := rfl
  have j : ∀ x : ByteArray, x.size ≤ 600 → f78.j0a 0 x r.row r.col r.text r.hidden r.kind r.num r.vtext = some (.sc (.string ((((nameB r.row r.col ++ (⟨#[32]⟩ : ByteArray)) ++ r.text) ++ (⟨#[32, 61, 32]⟩ : ByteArray)) ++ x))) := by
    intro x hx
    rw [f78.j0a_eq]
    refine cb (name_ev r.row r.col) rfl ?_
    simp only [ts]
    refine ip (by omega) (ip (by simp only [size_app]; omega) (ip (by simp only [size_app]; omega) (ip (by simp only [size_app]; omega) rfl)))
  refine (f78_eq 0 r.row r.col r.text r.hidden r.kind r.num r.vtext).trans ?_
  unfold rowB
  cases hh : r.hidden
  · refine ip rfl (cb hsh rfl ?_)
    rw [if_neg (by decide), ← hh]
    exact j (B (showV r.v)) (by rw [B_size]; exact h2)
  · refine im (by decide) ?_
    rw [if_pos rfl, ← hh]
    exact j _ (by decide)
theorem rvtext_ev (r : Rw) (h : smR r = true) (hn : goR r) : D 80 [r.pv] = some (.sc (.string (rowB r))) := by
  have hs := h
  unfold smR at hs
  simp only [Bool.and_eq_true, decide_eq_true_eq] at hs
  have hsh := rshow_ev r.v hn hs.1
  have h1 := nameB_size r.row r.col
  have h2 := showV_len hs.1
  have e1 : (⟨#[32]⟩ : ByteArray).size = 1 := rfl
  have e2 : (⟨#[32, 61, 32]⟩ : ByteArray).size = 3 := rfl
  refine (f80_eq 0 r.row r.col r.text r.hidden r.kind r.num r.vtext).trans ?_
  refine cb (rname_ev r.row r.col) rfl ?_
  simp only [ts]
  refine ip (by omega) (ip (by simp only [size_app]; omega) (ip (by simp only [size_app]; omega) ?_))
  by_cases hh : r.hidden = true
  · have er : rowB r = (((nameB r.row r.col ++ (⟨#[32]⟩ : ByteArray)) ++ r.text) ++ (⟨#[32, 61, 32]⟩ : ByteArray)) ++ (⟨#[63]⟩ : ByteArray) := by unfold rowB; rw [if_pos hh]
    rw [er]
    exact ip hh (ip (by simp only [size_app]; omega) rfl)
  · have er : rowB r = (((nameB r.row r.col ++ (⟨#[32]⟩ : ByteArray)) ++ r.text) ++ (⟨#[32, 61, 32]⟩ : ByteArray)) ++ B (showV r.v) := by unfold rowB; rw [if_neg hh]
    rw [er]
    exact im hh (cb hsh rfl (ip (by simp only [ts, size_app, B_size]; omega) rfl))
structure Cg where
  ar : Int
  ac : Int
  there : Bool
  r : Rw
def Cg.pv (c : Cg) : PV := .agg [.sc (.int .i64 c.ar), .sc (.int .i64 c.ac), .sc (.bool c.there), .sc (.int .i64 c.r.row), .sc (.int .i64 c.r.col), .sc (.string c.r.text), .sc (.bool c.r.hidden), .sc (.int .i64 c.r.kind), .sc (.int .i64 c.r.num), .sc (.string c.r.vtext)]
def cps (l : List Cg) : List PV := l.map Cg.pv
theorem cps_len (l : List Cg) : (cps l).length = l.length := by simp [cps]
theorem cps_get {l : List Cg} {i : Nat} (h : i < l.length) : (cps l).getD i .top = l[i].pv := by simp [cps, h]
theorem cps_app (l : List Cg) (c : Cg) : cps l ++ [c.pv] = cps (l ++ [c]) := by simp [cps]
def cgB (c : Cg) : ByteArray := if c.there = true then rowB c.r else nameB c.ar c.ac ++ (⟨#[32, 103, 111, 110, 101]⟩ : ByteArray)
theorem cgB_size {c : Cg} (h : smR c.r = true) : (cgB c).size ≤ 1000 := by
  unfold cgB
  split
  · exact rowB_size h
  · have := nameB_size c.ar c.ac
    have e : (⟨#[32, 103, 111, 110, 101]⟩ : ByteArray).size = 5 := rfl
    rw [size_app]; omega
theorem dtext_ev (c : Cg) (h : smR c.r = true) (hn : goR c.r) : D 112 [c.pv] = some (.sc (.string (cgB c))) := by
  refine (f112_eq 0 c.ar c.ac c.there c.r.row c.r.col c.r.text c.r.hidden c.r.kind c.r.num c.r.vtext).trans ?_
  unfold cgB
  have h1 := nameB_size c.ar c.ac
  cases ht : c.there
  · exact ip rfl (cb (name_ev c.ar c.ac) rfl (ip (by simp only [ts]; omega) rfl))
  · exact im (by decide) (cb (vtext_ev c.r h hn) rfl rfl)
theorem rdtext_ev (c : Cg) (h : smR c.r = true) (hn : goR c.r) : D 113 [c.pv] = some (.sc (.string (cgB c))) := by
  refine (f113_eq 0 c.ar c.ac c.there c.r.row c.r.col c.r.text c.r.hidden c.r.kind c.r.num c.r.vtext).trans ?_
  unfold cgB
  have h1 := nameB_size c.ar c.ac
  cases ht : c.there
  · exact im (by decide) (cb (rname_ev c.ar c.ac) rfl (ip (by simp only [ts]; omega) rfl))
  · exact ip rfl (cb (rvtext_ev c.r h hn) rfl rfl)
/-- Lines, one behind the other. -/
def catN (acc : List UInt8) (ws : List ByteArray) : List UInt8 := acc ++ (ws.map fun w => 10 :: w.data.toList).flatten
theorem catN_nil (acc : List UInt8) : catN acc [] = acc := by simp [catN]
theorem catN_cons (acc : List UInt8) (w : ByteArray) (ws : List ByteArray) : catN acc (w :: ws) = catN (acc ++ 10 :: w.data.toList) ws := by simp [catN]
theorem catN_app (acc : List UInt8) (ws : List ByteArray) (w : ByteArray) : catN acc (ws ++ [w]) = catN acc ws ++ 10 :: w.data.toList := by simp [catN]
theorem catN_len : ∀ (ws : List ByteArray) (acc : List UInt8), (∀ w ∈ ws, w.size ≤ 1000) → (catN acc ws).length ≤ acc.length + ws.length * 1001
  | [], acc, _ => by rw [catN_nil]; simp
  | w :: ws, acc, h => by
    have h1 := h w (by simp)
    have := catN_len ws (acc ++ 10 :: w.data.toList) (fun x hx => h x (List.mem_cons_of_mem _ hx))
    rw [catN_cons]
    have e : w.data.toList.length = w.size := rfl
    simp only [List.length_append, List.length_cons] at this ⊢
    omega
theorem join_catN : ∀ (ws : List ByteArray) (h : List UInt8), Lib.join (h :: ws.map (·.data.toList)) [10] = catN h ws
  | [], h => by rw [catN_nil]; unfold Lib.join; simp [List.intercalate, List.intersperse]
  | w :: ws, h => by
    have ih := join_catN ws w.data.toList
    unfold Lib.join at ih ⊢
    have e : catN h (w :: ws) = h ++ 10 :: catN w.data.toList ws := by
      unfold catN; simp
    rw [e, ← ih]
    simp [List.intercalate, List.intersperse]
def bsp (ws : List ByteArray) : List PV := ws.map fun w => .sc (.string w)
theorem bsp_len (ws : List ByteArray) : (bsp ws).length = ws.length := by simp [bsp]
theorem bsp_app (ws : List ByteArray) (w : ByteArray) : bsp ws ++ [.sc (.string w)] = bsp (ws ++ [w]) := by simp [bsp]
theorem joinN_ev (h : List UInt8) (ws : List ByteArray) (hl : ws.length ≤ 10000) (hh : h.length ≤ 1000) (hs : ∀ w ∈ ws, w.size ≤ 1000) : D 79 [frozen 1 (bsp (B h :: ws)), .sc (.string (⟨#[10]⟩ : ByteArray))] = some (.sc (.string (B (catN h ws)))) := by
  have e : ∀ x t : PV, D 79 [x, t] = xJoin [x, t] := fun x t => (denI_eq 0 _ _).trans (by kernel_rfl)
  rw [e]
  unfold xJoin frozen
  show (if _ ∧ _ ∧ _ then _ else _) = _
  have ej : joinArgs (bsp (B h :: ws)).length (fun i => (bsp (B h :: ws)).getD i .top) = B h :: ws := by
    unfold joinArgs
    apply List.ext_getElem
    · simp [bsp]
    · intro i h1 h2
      simp [bsp, h2, PV.toStr]
      rcases i with _ | i
      · rfl
      · have : i < ws.length := by simpa using h2
        simp [this]
  have e10 : (⟨#[10]⟩ : ByteArray).data.toList = [10] := rfl
  have em : (B h :: ws).map (·.data.toList) = h :: ws.map (·.data.toList) := rfl
  rw [ej, em, e10, join_catN]
  have hlen := catN_len ws h hs
  refine if_pos ⟨by rw [bsp_len]; simp; omega, ?_, by omega⟩
  rw [List.all_eq_true]
  intro i hi
  have hi' : i < (bsp (B h :: ws)).length := List.mem_range.1 hi
  have hi2 : i < ws.length + 1 := by rw [bsp_len] at hi'; simpa using hi'
  rcases i with _ | i
  · rfl
  · have : i < ws.length := by omega
    simp [bsp, this]
    rfl
end Go.Den.EC
/- What the cells of the laws' arguments are. -/
set_option linter.unusedVariables false
set_option maxRecDepth 100000
namespace Go.Den.EC
open Go Go.Proofs
-- ReplyChanges: function 4, types [29, 3]
theorem on3 (x : PV) : ofCells Tryz.prog 3 [x] = x := by unfold ofCells; rw [Tryz.underlying3]; rfl
theorem ce3 : Tryz.prog.cellsOf 3 = 1 := by kernel_rfl
theorem by3 : Tryz.prog.bytesOf 3 = 8 := by kernel_rfl
theorem of3 {xs : List PV} (h : Ty Tryz.prog 3 xs) : ∃ (a : Int), xs = [.sc (.int .i64 a)] ∧ (-9223372036854775808 ≤ a ∧ a ≤ 9223372036854775807) := by
  obtain ⟨a, e, w⟩ := ty_i64 h Tryz.underlying3
  exact ⟨a, e, w⟩
theorem ag32 (a : List PV) : ofCells Tryz.prog 32 a = .agg a := by unfold ofCells; rw [Tryz.underlying32]; rfl
theorem ce32 : Tryz.prog.cellsOf 32 = 2 := by kernel_rfl
theorem by32 : Tryz.prog.bytesOf 32 = 16 := by kernel_rfl
theorem of32 {xs : List PV} (h : Ty Tryz.prog 32 xs) : ∃ (a_0 : Int) (a_1 : Int), xs = [.sc (.int .i64 a_0), .sc (.int .i64 a_1)] ∧ (-9223372036854775808 ≤ a_0 ∧ a_0 ≤ 9223372036854775807) ∧ (-9223372036854775808 ≤ a_1 ∧ a_1 ≤ 9223372036854775807) := by
  obtain ⟨hl, hx⟩ := ty_struct h Tryz.underlying32
  rw [ce32] at hl
  obtain ⟨x0, x1, rfl⟩ : ∃ x0 x1, xs = [x0, x1] := by
    match xs, hl with
    | [x0, x1], _ => exact ⟨x0, x1, rfl⟩
  have h0 : Ty Tryz.prog 3 [x0] := by
    have h := hx _ (List.mem_cons_self)
    first | (simp only [ce3] at h; exact h) | exact h
  obtain ⟨a_0, e0, w0_0⟩ := of3 h0
  simp only [List.cons.injEq, and_true] at e0
  subst e0
  have h1 : Ty Tryz.prog 3 [x1] := by
    have h := hx _ (List.mem_cons_of_mem _ (List.mem_cons_self))
    first | (simp only [ce3] at h; exact h) | exact h
  obtain ⟨a_1, e1, w1_0⟩ := of3 h1
  simp only [List.cons.injEq, and_true] at e1
  subst e1
  exact ⟨a_0, a_1, rfl, w0_0, w1_0⟩
theorem on4 (x : PV) : ofCells Tryz.prog 4 [x] = x := by unfold ofCells; rw [Tryz.underlying4]; rfl
theorem ce4 : Tryz.prog.cellsOf 4 = 1 := by kernel_rfl
theorem by4 : Tryz.prog.bytesOf 4 = 1 := by kernel_rfl
theorem of4 {xs : List PV} (h : Ty Tryz.prog 4 xs) : ∃ (a : Bool), xs = [.sc (.bool a)] := by
  exact ty_bool h Tryz.underlying4
theorem on9 (x : PV) : ofCells Tryz.prog 9 [x] = x := by unfold ofCells; rw [Tryz.underlying9]; rfl
theorem ce9 : Tryz.prog.cellsOf 9 = 1 := by kernel_rfl
theorem by9 : Tryz.prog.bytesOf 9 = 16 := by kernel_rfl
theorem of9 {xs : List PV} (h : Ty Tryz.prog 9 xs) : ∃ (a : ByteArray), xs = [.sc (.string a)] ∧ a.size ≤ 140737488351232 := by
  exact ty_str h Tryz.underlying9
theorem on2 (x : PV) : ofCells Tryz.prog 2 [x] = x := by unfold ofCells; rw [Tryz.underlying2]; rfl
theorem ce2 : Tryz.prog.cellsOf 2 = 1 := by kernel_rfl
theorem by2 : Tryz.prog.bytesOf 2 = 8 := by kernel_rfl
theorem of2 {xs : List PV} (h : Ty Tryz.prog 2 xs) : ∃ (a : Int), xs = [.sc (.int .i64 a)] ∧ (-9223372036854775808 ≤ a ∧ a ≤ 9223372036854775807) := by
  obtain ⟨a, e, w⟩ := ty_i64 h Tryz.underlying2
  exact ⟨a, e, w⟩
theorem ag23 (a : List PV) : ofCells Tryz.prog 23 a = .agg a := by unfold ofCells; rw [Tryz.underlying23]; rfl
theorem ce23 : Tryz.prog.cellsOf 23 = 3 := by kernel_rfl
theorem by23 : Tryz.prog.bytesOf 23 = 32 := by kernel_rfl
theorem of23 {xs : List PV} (h : Ty Tryz.prog 23 xs) : ∃ (a_0 : Int) (a_1 : Int) (a_2 : ByteArray), xs = [.sc (.int .i64 a_0), .sc (.int .i64 a_1), .sc (.string a_2)] ∧ (-9223372036854775808 ≤ a_0 ∧ a_0 ≤ 9223372036854775807) ∧ (-9223372036854775808 ≤ a_1 ∧ a_1 ≤ 9223372036854775807) ∧ a_2.size ≤ 140737488351232 := by
  obtain ⟨hl, hx⟩ := ty_struct h Tryz.underlying23
  rw [ce23] at hl
  obtain ⟨x0, x1, x2, rfl⟩ : ∃ x0 x1 x2, xs = [x0, x1, x2] := by
    match xs, hl with
    | [x0, x1, x2], _ => exact ⟨x0, x1, x2, rfl⟩
  have h0 : Ty Tryz.prog 3 [x0] := by
    have h := hx _ (List.mem_cons_self)
    first | (simp only [ce3] at h; exact h) | exact h
  obtain ⟨a_0, e0, w0_0⟩ := of3 h0
  simp only [List.cons.injEq, and_true] at e0
  subst e0
  have h1 : Ty Tryz.prog 2 [x1] := by
    have h := hx _ (List.mem_cons_of_mem _ (List.mem_cons_self))
    first | (simp only [ce2] at h; exact h) | exact h
  obtain ⟨a_1, e1, w1_0⟩ := of2 h1
  simp only [List.cons.injEq, and_true] at e1
  subst e1
  have h2 : Ty Tryz.prog 9 [x2] := by
    have h := hx _ (List.mem_cons_of_mem _ (List.mem_cons_of_mem _ (List.mem_cons_self)))
    first | (simp only [ce9] at h; exact h) | exact h
  obtain ⟨a_2, e2, w2_0⟩ := of9 h2
  simp only [List.cons.injEq, and_true] at e2
  subst e2
  exact ⟨a_0, a_1, a_2, rfl, w0_0, w1_0, w2_0⟩
theorem ag34 (a : List PV) : ofCells Tryz.prog 34 a = .agg a := by unfold ofCells; rw [Tryz.underlying34]; rfl
theorem ce34 : Tryz.prog.cellsOf 34 = 7 := by kernel_rfl
theorem by34 : Tryz.prog.bytesOf 34 = 72 := by kernel_rfl
theorem of34 {xs : List PV} (h : Ty Tryz.prog 34 xs) : ∃ (a_0_0 : Int) (a_0_1 : Int) (a_1 : ByteArray) (a_2 : Bool) (a_3_0 : Int) (a_3_1 : Int) (a_3_2 : ByteArray), xs = [.sc (.int .i64 a_0_0), .sc (.int .i64 a_0_1), .sc (.string a_1), .sc (.bool a_2), .sc (.int .i64 a_3_0), .sc (.int .i64 a_3_1), .sc (.string a_3_2)] ∧ (-9223372036854775808 ≤ a_0_0 ∧ a_0_0 ≤ 9223372036854775807) ∧ (-9223372036854775808 ≤ a_0_1 ∧ a_0_1 ≤ 9223372036854775807) ∧ a_1.size ≤ 140737488351232 ∧ (-9223372036854775808 ≤ a_3_0 ∧ a_3_0 ≤ 9223372036854775807) ∧ (-9223372036854775808 ≤ a_3_1 ∧ a_3_1 ≤ 9223372036854775807) ∧ a_3_2.size ≤ 140737488351232 := by
  obtain ⟨hl, hx⟩ := ty_struct h Tryz.underlying34
  rw [ce34] at hl
  obtain ⟨x0, x1, x2, x3, x4, x5, x6, rfl⟩ : ∃ x0 x1 x2 x3 x4 x5 x6, xs = [x0, x1, x2, x3, x4, x5, x6] := by
    match xs, hl with
    | [x0, x1, x2, x3, x4, x5, x6], _ => exact ⟨x0, x1, x2, x3, x4, x5, x6, rfl⟩
  have h0 : Ty Tryz.prog 32 [x0, x1] := by
    have h := hx _ (List.mem_cons_self)
    first | (simp only [ce32] at h; exact h) | exact h
  obtain ⟨a_0_0, a_0_1, e0, w0_0, w0_1⟩ := of32 h0
  simp only [List.cons.injEq, and_true] at e0
  obtain ⟨rfl, rfl⟩ := e0
  have h1 : Ty Tryz.prog 9 [x2] := by
    have h := hx _ (List.mem_cons_of_mem _ (List.mem_cons_self))
    first | (simp only [ce9] at h; exact h) | exact h
  obtain ⟨a_1, e1, w1_0⟩ := of9 h1
  simp only [List.cons.injEq, and_true] at e1
  subst e1
  have h2 : Ty Tryz.prog 4 [x3] := by
    have h := hx _ (List.mem_cons_of_mem _ (List.mem_cons_of_mem _ (List.mem_cons_self)))
    first | (simp only [ce4] at h; exact h) | exact h
  obtain ⟨a_2, e2⟩ := of4 h2
  simp only [List.cons.injEq, and_true] at e2
  subst e2
  have h3 : Ty Tryz.prog 23 [x4, x5, x6] := by
    have h := hx _ (List.mem_cons_of_mem _ (List.mem_cons_of_mem _ (List.mem_cons_of_mem _ (List.mem_cons_self))))
    first | (simp only [ce23] at h; exact h) | exact h
  obtain ⟨a_3_0, a_3_1, a_3_2, e3, w3_0, w3_1, w3_2⟩ := of23 h3
  simp only [List.cons.injEq, and_true] at e3
  obtain ⟨rfl, rfl, rfl⟩ := e3
  exact ⟨a_0_0, a_0_1, a_1, a_2, a_3_0, a_3_1, a_3_2, rfl, w0_0, w0_1, w1_0, w3_0, w3_1, w3_2⟩
theorem ag36 (a : List PV) : ofCells Tryz.prog 36 a = .agg a := by unfold ofCells; rw [Tryz.underlying36]; rfl
theorem ce36 : Tryz.prog.cellsOf 36 = 10 := by kernel_rfl
theorem by36 : Tryz.prog.bytesOf 36 = 96 := by kernel_rfl
theorem of36 {xs : List PV} (h : Ty Tryz.prog 36 xs) : ∃ (a_0_0 : Int) (a_0_1 : Int) (a_1 : Bool) (a_2_0_0 : Int) (a_2_0_1 : Int) (a_2_1 : ByteArray) (a_2_2 : Bool) (a_2_3_0 : Int) (a_2_3_1 : Int) (a_2_3_2 : ByteArray), xs = [.sc (.int .i64 a_0_0), .sc (.int .i64 a_0_1), .sc (.bool a_1), .sc (.int .i64 a_2_0_0), .sc (.int .i64 a_2_0_1), .sc (.string a_2_1), .sc (.bool a_2_2), .sc (.int .i64 a_2_3_0), .sc (.int .i64 a_2_3_1), .sc (.string a_2_3_2)] ∧ (-9223372036854775808 ≤ a_0_0 ∧ a_0_0 ≤ 9223372036854775807) ∧ (-9223372036854775808 ≤ a_0_1 ∧ a_0_1 ≤ 9223372036854775807) ∧ (-9223372036854775808 ≤ a_2_0_0 ∧ a_2_0_0 ≤ 9223372036854775807) ∧ (-9223372036854775808 ≤ a_2_0_1 ∧ a_2_0_1 ≤ 9223372036854775807) ∧ a_2_1.size ≤ 140737488351232 ∧ (-9223372036854775808 ≤ a_2_3_0 ∧ a_2_3_0 ≤ 9223372036854775807) ∧ (-9223372036854775808 ≤ a_2_3_1 ∧ a_2_3_1 ≤ 9223372036854775807) ∧ a_2_3_2.size ≤ 140737488351232 := by
  obtain ⟨hl, hx⟩ := ty_struct h Tryz.underlying36
  rw [ce36] at hl
  obtain ⟨x0, x1, x2, x3, x4, x5, x6, x7, x8, x9, rfl⟩ : ∃ x0 x1 x2 x3 x4 x5 x6 x7 x8 x9, xs = [x0, x1, x2, x3, x4, x5, x6, x7, x8, x9] := by
    match xs, hl with
    | [x0, x1, x2, x3, x4, x5, x6, x7, x8, x9], _ => exact ⟨x0, x1, x2, x3, x4, x5, x6, x7, x8, x9, rfl⟩
  have h0 : Ty Tryz.prog 32 [x0, x1] := by
    have h := hx _ (List.mem_cons_self)
    first | (simp only [ce32] at h; exact h) | exact h
  obtain ⟨a_0_0, a_0_1, e0, w0_0, w0_1⟩ := of32 h0
  simp only [List.cons.injEq, and_true] at e0
  obtain ⟨rfl, rfl⟩ := e0
  have h1 : Ty Tryz.prog 4 [x2] := by
    have h := hx _ (List.mem_cons_of_mem _ (List.mem_cons_self))
    first | (simp only [ce4] at h; exact h) | exact h
  obtain ⟨a_1, e1⟩ := of4 h1
  simp only [List.cons.injEq, and_true] at e1
  subst e1
  have h2 : Ty Tryz.prog 34 [x3, x4, x5, x6, x7, x8, x9] := by
    have h := hx _ (List.mem_cons_of_mem _ (List.mem_cons_of_mem _ (List.mem_cons_self)))
    first | (simp only [ce34] at h; exact h) | exact h
  obtain ⟨a_2_0_0, a_2_0_1, a_2_1, a_2_2, a_2_3_0, a_2_3_1, a_2_3_2, e2, w2_0, w2_1, w2_2, w2_3, w2_4, w2_5⟩ := of34 h2
  simp only [List.cons.injEq, and_true] at e2
  obtain ⟨rfl, rfl, rfl, rfl, rfl, rfl, rfl⟩ := e2
  exact ⟨a_0_0, a_0_1, a_1, a_2_0_0, a_2_0_1, a_2_1, a_2_2, a_2_3_0, a_2_3_1, a_2_3_2, rfl, w0_0, w0_1, w2_0, w2_1, w2_2, w2_3, w2_4, w2_5⟩
theorem on29 (x : PV) : ofCells Tryz.prog 29 [x] = x := by unfold ofCells; rw [Tryz.underlying29]; rfl
theorem ce29 : Tryz.prog.cellsOf 29 = 1 := by kernel_rfl
theorem by29 : Tryz.prog.bytesOf 29 = 24 := by kernel_rfl
theorem of29 {xs : List PV} (h : Ty Tryz.prog 29 xs) : ∃ (a : List PV), xs = [frozen 10 a] ∧ (a.length * 96 ≤ 140737488351232 ∧ a.length ≤ 9223372036854775807 ∧ ∀ x, x ∈ a → Ty Tryz.prog 36 x.cells ∧ x = ofCells Tryz.prog 36 x.cells) := by
  obtain ⟨l, e, h1, h2, h3⟩ := ty_slice h Tryz.underlying29
  rw [ce36] at e; rw [by36] at h1
  exact ⟨l, e, h1, h2, h3⟩
end Go.Den.EC
/- Replies with changes: the law. -/
set_option linter.unusedVariables false
set_option linter.unusedSimpArgs false
set_option maxRecDepth 100000
namespace Go.Den.EC
open Go Go.Proofs
theorem small_l (l : List Rw) (hl : l.length ≤ 1000) (hn : ∀ r ∈ l, goR r) : ∀ (d i : Nat), i + d = l.length → f22.l0a 0 l.length (fun i => (rpv l).getD i .top) (l.length : Int) (i : Int) = some (.sc (.bool ((l.drop i).all smR))) := by
  intro d
  induction d with
  | zero =>
    intro i h
    rw [f22.l0a_eq, List.drop_eq_nil_of_le (by omega)]
    exact im (by rw [decide_eq_true_eq]; omega) rfl
  | succ d ih =>
    intro i h
    have hi : i < l.length := by omega
    have hgi := hn l[i] (List.getElem_mem hi)
    have c1 : (0 : Int) ≤ (i : Int) := by omega
    have c2 : (i : Int) < (l.length : Int) := by omega
    have hm := vrmay_ev l[i].v hgi.1
    rw [f22.l0a_eq, List.drop_eq_getElem_cons hi, List.all_cons, Int.toNat_natCast, rpv_get hi]
    refine ip (decide_eq_true c2) (ip c1 (ip c2 (ip rfl (cb hm rfl ?_))))
    have hc2 : (cel 2 l[i].pv.cells).toStr = l[i].text := rfl
    rw [hc2, Rw.sh]
    simp only [if_pos c1, if_pos c2, if_true, bs, tb]
    have es : smR l[i] = (mayV l[i].v && decide (l[i].text.size ≤ 300)) := rfl
    have ed : decide ((l[i].text.size : Int) > 300) = !decide (l[i].text.size ≤ 300) := by
      by_cases h : l[i].text.size ≤ 300
      · rw [decide_eq_true h, decide_eq_false (by omega)]; rfl
      · rw [decide_eq_false h, decide_eq_true (by omega)]; rfl
    rw [ed, es]
    cases mayV l[i].v
    · exact rfl
    · cases decide (l[i].text.size ≤ 300)
      · exact rfl
      · simp only [bs, tb, Bool.not_true, Bool.false_eq_true, if_false, Bool.and_self, Bool.true_and]
        rw [nx hi (by omega)]
        exact ih (i + 1) (by omega)
theorem small_ev (l : List Rw) (hn : ∀ r ∈ l, goR r) : D 22 [.lst 7 l.length (fun i => (rpv l).getD i .top)] = some (.sc (.bool (decide (l.length ≤ 100) && l.all smR))) := by
  rw [f22_eq 0]
  by_cases h : l.length ≤ 100
  · refine im (by rw [decide_eq_true_eq]; omega) ?_
    rw [decide_eq_true h, Bool.true_and]
    have := small_l l (by omega) hn l.length 0 (by omega)
    rw [List.drop_zero] at this
    exact this
  · rw [decide_eq_false h, Bool.false_and]
    exact ip (by rw [decide_eq_true_eq]; omega) rfl
theorem small_one (r : Rw) (hn : goR r) : D 22 [frozen 7 [r.pv]] = some (.sc (.bool (smR r))) := by
  have := small_ev [r] (by intro x hx; rw [List.mem_singleton.1 hx]; exact hn)
  have e : (decide ([r].length ≤ 100) && [r].all smR) = smR r := by simp
  rw [e] at this
  exact this
theorem lines_l (l : List Cg) (hl : l.length ≤ 100) (hg : ∀ c ∈ l, smR c.r = true ∧ goR c.r) (h : List UInt8) (hh : h.length ≤ 1000) : ∀ (d i : Nat), i + d = l.length → f74.l0a 0 l.length (fun i => (cps l).getD i .top) (l.length : Int) (i : Int) (bsp (B h :: (l.take i).map cgB)) = some (.sc (.string (B (catN h (l.map cgB))))) := by
  have hsz : ∀ w ∈ l.map cgB, w.size ≤ 1000 := by
    intro w hw
    obtain ⟨c, hc, rfl⟩ := List.mem_map.1 hw
    exact cgB_size (hg c hc).1
  intro d
  induction d with
  | zero =>
    intro i hi
    rw [f74.l0a_eq, List.take_of_length_le (by omega)]
    refine im (by rw [decide_eq_true_eq]; omega) ?_
    exact cb (joinN_ev h (l.map cgB) (by simp; omega) hh hsz) rfl rfl
  | succ d ih =>
    intro i hi
    have hlt : i < l.length := by omega
    obtain ⟨g1, g2⟩ := hg l[i] (List.getElem_mem hlt)
    rw [f74.l0a_eq, Int.toNat_natCast, cps_get hlt]
    refine ip (by rw [decide_eq_true_eq]; omega) (ip (by omega) (ip (by omega) (ip rfl (cb (dtext_ev l[i] g1 g2) rfl (ip (by rw [bsp_len]; simp; omega) ?_)))))
    show f74.l0a 0 l.length (fun i => (cps l).getD i .top) (l.length : Int) (IntKind.i64.wrap ((i : Int) + 1)) (bsp (B h :: (l.take i).map cgB) ++ [.sc (.string (cgB l[i]))]) = _
    rw [bsp_app, nx hlt (by omega)]
    have e : (B h :: (l.take i).map cgB) ++ [cgB l[i]] = B h :: (l.take (i + 1)).map cgB := by
      rw [List.take_add_one, List.getElem?_eq_getElem hlt, List.map_append]; rfl
    rw [e]
    exact ih (i + 1) (by omega)
theorem lines_ev (l : List Cg) (hl : l.length ≤ 100) (hg : ∀ c ∈ l, smR c.r = true ∧ goR c.r) (h : List UInt8) (hh : h.length ≤ 1000) (f : Nat → PV) (hf : f = fun i => (cps l).getD i .top) : D 74 [.sc (.string (B h)), .lst 10 l.length f] = some (.sc (.string (B (catN h (l.map cgB))))) := by
  subst hf
  rw [f74_eq 0]
  exact lines_l l hl hg h hh l.length 0 (by omega)
theorem rlines_l (l : List Cg) (hl : l.length ≤ 100) (hg : ∀ c ∈ l, smR c.r = true ∧ goR c.r) (h : List UInt8) (hh : h.length ≤ 1000) : ∀ (d i : Nat), i + d = l.length → f76.l0a 0 (B (catN h ((l.take i).map cgB))) l.length (fun i => (cps l).getD i .top) (i : Int) = some (.sc (.string (B (catN h (l.map cgB))))) := by
  have hsz : ∀ i, (catN h ((l.take i).map cgB)).length ≤ 1000 + 100 * 1001 := by
    intro i
    have := catN_len ((l.take i).map cgB) h (by
      intro w hw
      obtain ⟨c, hc, rfl⟩ := List.mem_map.1 hw
      exact cgB_size (hg c (List.mem_of_mem_take hc)).1)
    rw [List.length_map, List.length_take] at this
    omega
  intro d
  induction d with
  | zero =>
    intro i hi
    rw [f76.l0a_eq, List.take_of_length_le (by omega)]
    exact im (by rw [decide_eq_true_eq]; omega) rfl
  | succ d ih =>
    intro i hi
    have hlt : i < l.length := by omega
    obtain ⟨g1, g2⟩ := hg l[i] (List.getElem_mem hlt)
    have hs := hsz i
    have hc := cgB_size g1
    rw [f76.l0a_eq, Int.toNat_natCast, cps_get hlt]
    refine ip (by rw [decide_eq_true_eq]; omega) (ip (by rw [B_size]; omega) (ip (by omega) (ip (by omega) (ip rfl (cb (rdtext_ev l[i] g1 g2) rfl ?_)))))
    simp only [ts]
    rw [show (⟨#[10]⟩ : ByteArray) = B [10] from rfl, B_append]
    refine ip (by rw [B_size, List.length_append, List.length_singleton]; omega) ?_
    rw [nx hlt (by omega)]
    have e : B (catN h ((l.take i).map cgB) ++ [10]) ++ cgB l[i] = B (catN h ((l.take (i + 1)).map cgB)) := by
      rw [List.take_add_one, List.getElem?_eq_getElem hlt, List.map_append]
      show _ = B (catN h ((l.take i).map cgB ++ [cgB l[i]]))
      rw [catN_app]
      conv => lhs; rw [← B_back (cgB l[i])]
      rw [B_append, List.append_assoc]; rfl
    rw [e]
    exact ih (i + 1) (by omega)
theorem rlines_ev (l : List Cg) (hl : l.length ≤ 100) (hg : ∀ c ∈ l, smR c.r = true ∧ goR c.r) (h : List UInt8) (hh : h.length ≤ 1000) : D 76 [.sc (.string (B h)), .lst 10 l.length (fun i => (cps l).getD i .top)] = some (.sc (.string (B (catN h (l.map cgB))))) := by
  rw [f76_eq 0]
  have := rlines_l l hl hg h hh l.length 0 (by omega)
  rw [List.take_zero, List.map_nil, catN_nil] at this
  exact this
def wOk : List UInt8 := [111, 107]
def wCh : List UInt8 := [99, 104, 97, 110, 103, 101, 115, 32]
theorem rcount_ev {n : Int} (h : okS n = true) : D 75 [.sc (.int .i64 n)] = some (.sc (.string (B (dS n)))) := by
  rw [f75_eq 0]
  exact cb (text_okS h) rfl rfl
section
variable (l : List Cg) (hl : l.length ≤ 100) (hg : ∀ c ∈ l, smR c.r = true ∧ goR c.r) (f : Nat → PV) (hf : f = fun i => (cps l).getD i .top)
theorem done_ev (hl : l.length ≤ 100) (hg : ∀ c ∈ l, smR c.r = true ∧ goR c.r) (hf : f = fun i => (cps l).getD i .top) : D 23 [.lst 10 l.length f] = some (.sc (.string (B (catN wOk (l.map cgB))))) := by
  rw [f23_eq 0]
  exact cb (lines_ev l hl hg wOk (by decide) f hf) rfl rfl
theorem rdone_ev (hl : l.length ≤ 100) (hg : ∀ c ∈ l, smR c.r = true ∧ goR c.r) : D 25 [.lst 10 l.length (fun i => (cps l).getD i .top)] = some (.sc (.string (B (catN wOk (l.map cgB))))) := by
  rw [f25_eq 0]
  exact cb (rlines_ev l hl hg wOk (by decide)) rfl rfl
theorem changes_ev {n : Int} (hn : okS n = true) (hl : l.length ≤ 100) (hg : ∀ c ∈ l, smR c.r = true ∧ goR c.r) (hf : f = fun i => (cps l).getD i .top) : D 24 [.sc (.int .i64 n), .lst 10 l.length f] = some (.sc (.string (B (catN (wCh ++ dS n) (l.map cgB))))) := by
  rw [f24_eq 0]
  have hd := dS_len hn
  refine cb (rcount_ev hn) rfl (ip (by simp only [ts, B_size]; omega) ?_)
  simp only [ts]
  rw [show (⟨#[99, 104, 97, 110, 103, 101, 115, 32]⟩ : ByteArray) = B wCh from rfl, B_append]
  exact cb (lines_ev l hl hg (wCh ++ dS n) (by rw [List.length_append]; show 8 + _ ≤ _; omega) f hf) rfl rfl
theorem rchanges_ev {n : Int} (hn : okS n = true) (hl : l.length ≤ 100) (hg : ∀ c ∈ l, smR c.r = true ∧ goR c.r) : D 26 [.sc (.int .i64 n), .lst 10 l.length (fun i => (cps l).getD i .top)] = some (.sc (.string (B (catN (wCh ++ dS n) (l.map cgB))))) := by
  rw [f26_eq 0]
  have hd := dS_len hn
  refine cb (digits_okS hn) rfl (ip (by simp only [ts, B_size]; omega) ?_)
  simp only [ts]
  rw [show (⟨#[99, 104, 97, 110, 103, 101, 115, 32]⟩ : ByteArray) = B wCh from rfl, B_append]
  exact cb (rlines_ev l hl hg (wCh ++ dS n) (by rw [List.length_append]; show 8 + _ ≤ _; omega)) rfl rfl
end
theorem al45 : ((D 21 []).bind fun r8 => if hasSh .bool r8 = true then some (PV.sc (.bool r8.toBool)) else none) = some (PV.sc (.bool true)) := cb alive45_ev rfl rfl
theorem changes_b (l : List Cg) (hl : l.length ≤ 100) (hgo : ∀ c ∈ l, goR c.r) {n : Int} (hn : okS n = true) : ∀ (d i : Nat), i + d = l.length → (∀ c ∈ l.take i, smR c.r = true) → f4.l0b 0 l.length (fun i => (cps l).getD i .top) n l.length (fun i => (cps l).getD i .top) (l.length : Int) (i : Int) (cps (l.take i)) = some (.sc (.bool true)) := by
  intro d
  induction d with
  | zero =>
    intro i hi hs
    rw [f4.l0b_eq, List.take_of_length_le (by omega)]
    rw [List.take_of_length_le (by omega)] at hs
    have hg : ∀ c ∈ l, smR c.r = true ∧ goR c.r := fun c hc => ⟨hs c hc, hgo c hc⟩
    have ef : frozen 10 (cps l) = .lst 10 l.length (fun i => (cps l).getD i .top) := by unfold frozen; rw [cps_len]
    rw [ef]
    refine im (by rw [decide_eq_true_eq]; omega) ?_
    refine cb (done_ev l _ hl hg rfl) rfl (cb (changes_ev l _ hn hl hg rfl) rfl (cb (rdone_ev l hl hg) rfl ?_))
    rw [rchanges_ev l hn hl hg]
    simp only [bs, shs, shb, tb, ts, beq_self_eq_true, if_true, alive45_ev]
  | succ d ih =>
    intro i hi hs
    have hlt : i < l.length := by omega
    rw [f4.l0b_eq, Int.toNat_natCast, cps_get hlt]
    have hso := small_one l[i].r (hgo l[i] (List.getElem_mem hlt))
    refine ip (by rw [decide_eq_true_eq]; omega) (ip (by omega) (ip (by omega) (ip rfl (cb hso rfl ?_))))
    cases hsm : smR l[i].r
    · exact ip rfl al45
    · refine im (show ¬ (!true) = true by decide) (ip (by rw [cps_len]; simp; omega) ?_)
      show f4.l0b 0 l.length (fun i => (cps l).getD i .top) n l.length (fun i => (cps l).getD i .top) (l.length : Int) (IntKind.i64.wrap ((i : Int) + 1)) (cps (l.take i) ++ [l[i].pv]) = _
      rw [cps_app, nx hlt (by omega)]
      have e : l.take i ++ [l[i]] = l.take (i + 1) := by rw [List.take_add_one, List.getElem?_eq_getElem hlt]; rfl
      rw [e]
      refine ih (i + 1) (by omega) ?_
      rw [← e]
      intro c hc
      rcases List.mem_append.1 hc with h | h
      · exact hs c h
      · rw [List.mem_singleton.1 h]; exact hsm
theorem changes_a (l : List Cg) (hl : l.length ≤ 100) (hgo : ∀ c ∈ l, goR c.r) {n : Int} (hn : okS n = true) : f4.l0a 0 l.length (fun i => (cps l).getD i .top) n l.length (fun i => (cps l).getD i .top) (l.length : Int) 0 = some (.sc (.bool true)) := by
  rcases l with _ | ⟨c, l⟩
  · rw [f4.l0a_eq]
    have hg : ∀ c ∈ ([] : List Cg), smR c.r = true ∧ goR c.r := fun c hc => by cases hc
    have ef : (fun _ => PV.top) = fun i => (cps []).getD i PV.top := by funext i; simp [cps]
    refine im (by decide) ?_
    refine cb (done_ev [] _ hl hg ef) rfl (cb (changes_ev [] _ hn hl hg ef) rfl (cb (rdone_ev [] hl hg) rfl ?_))
    rw [rchanges_ev [] hn hl hg]
    simp only [bs, shs, shb, tb, ts, beq_self_eq_true, if_true, alive45_ev]
  · have hlt : 0 < (c :: l).length := by simp
    have hb := changes_b (c :: l) hl hgo hn l.length 1 (by simp; omega)
    rw [f4.l0a_eq]
    have e0 : ((0 : Int)).toNat = 0 := rfl
    have hso := small_one c.r (hgo c (by simp))
    rw [e0, cps_get hlt]
    refine ip (by rw [decide_eq_true_eq]; omega) (ip (by omega) (ip (by omega) (ip rfl (cb hso rfl ?_))))
    cases hsm : smR c.r
    · exact ip rfl al45
    · refine im (show ¬ (!true) = true by decide) (ip (by simp) ?_)
      refine hb ?_
      intro x hx
      have : x = c := by simpa using hx
      rw [this]; exact hsm
theorem replyChanges_D (l : List Cg) (hgo : ∀ c ∈ l, goR c.r) (n : Int) : D 4 [frozen 10 (cps l), .sc (.int .i64 n)] = some (.sc (.bool true)) := by
  have ef : frozen 10 (cps l) = .lst 10 l.length (fun i => (cps l).getD i .top) := by unfold frozen; rw [cps_len]
  rw [ef, f4_eq 0, bO, bO]
  by_cases h : l.length ≤ 100 ∧ okS n = true
  · have hn := okS_iff.1 h.2
    refine im (show ¬ ((decide ((l.length : Int) > 100) || decide (n < 0)) || decide (n > 1000000000)) = true by
      simp only [Bool.or_eq_true, decide_eq_true_eq]; omega) ?_
    exact changes_a l h.1 hgo h.2
  · refine ip (show ((decide ((l.length : Int) > 100) || decide (n < 0)) || decide (n > 1000000000)) = true from ?_) al45
    rw [okS_iff] at h
    simp only [Bool.or_eq_true, decide_eq_true_eq]
    omega
theorem cg_of {xs : List PV} (h : Ty Tryz.prog 36 xs) : ∃ c : Cg, ofCells Tryz.prog 36 xs = c.pv ∧ goR c.r := by
  obtain ⟨a0, a1, a2, a3, a4, a5, a6, a7, a8, a9, rfl, _, _, _, _, _, _, hn, _⟩ := of36 h
  exact ⟨⟨a0, a1, a2, ⟨a3, a4, a5, a6, a7, a8, a9⟩⟩, ag36 _, hn⟩
theorem cgs_of : ∀ {l : List PV}, (∀ x, x ∈ l → Ty Tryz.prog 36 x.cells ∧ x = ofCells Tryz.prog 36 x.cells) → ∃ rs : List Cg, l = cps rs ∧ ∀ c ∈ rs, goR c.r
  | [], _ => ⟨[], rfl, fun c h => by cases h⟩
  | x :: l, h => by
    obtain ⟨rs, e, g⟩ := cgs_of fun y hy => h y (List.mem_cons_of_mem _ hy)
    obtain ⟨h1, h2⟩ := h x List.mem_cons_self
    obtain ⟨r, er, gr⟩ := cg_of h1
    refine ⟨r :: rs, by rw [h2, er, e]; rfl, ?_⟩
    intro c hc
    rcases List.mem_cons.1 hc with rfl | hc
    · exact gr
    · exact g c hc
theorem replyChanges_law (W : World) (vs : List Value) (xs : List PV) (h : Handed Tryz.prog W [29, 3] vs xs) : D 4 xs = some (.sc (.bool true)) := by
  obtain ⟨a, _, _, rfl, ha, h⟩ := handed_cons h
  obtain ⟨b, _, _, rfl, hb, h⟩ := handed_cons h
  obtain rfl := handed_nil h
  obtain ⟨a, rfl, _, la, ha⟩ := of29 ha
  obtain ⟨n, rfl, _⟩ := of3 hb
  obtain ⟨l, rfl, hg⟩ := cgs_of ha
  rw [on29, on3]
  exact replyChanges_D l hg n
end Go.Den.EC
set_option maxRecDepth 100000
namespace Go.Proofs.YtbkdoeghgdbjlaaGreatDoor.replyChanges
open Go.ChangeShapes Go.WideShapes Go.ChangeAt Go.RowKit Go.Den
theorem own : ownKnob Tryz.prog.godebug = none := by kernel_rfl
theorem laidOut : laidOutB Tryz.prog = true := by kernel_rfl
theorem good : goodAll Tryz.prog [29, 36, 32, 3, 4, 34, 9, 23, 2] = true := by kernel_rfl
theorem follows : Tryz.prog.follows .mixedOrders = true := by kernel_rfl
theorem tabs_laid {W : World} (h : laidMet Tryz.prog Rows.replyChangesRow.laid W) (hS : W.ShapedOpen Tryz.prog) : Tabs W := by
  refine ⟨?_, ?_⟩
  · exact Lib.tabIs_of_head (g := 5) (t := 212) (e := 158) (n := 20) (by kernel_rfl) (by kernel_rfl) (by kernel_rfl) (by kernel_rfl) (by kernel_rfl) (by kernel_rfl) (laidMet.tail (laidMet.tail h))
  · exact Go.Proofs.cell_of_shapedOpen_int (g := 1) (zero := #[.int .i64 0]) (t := 3) hS (of_decide_eq_true (by kernel_rfl)) (by kernel_rfl) rfl (by kernel_rfl) (by kernel_rfl) Tryz.underlying3
theorem lifted (os : Os) (started : os.Started) (H : Type) (enc : TypeId × Value → H) :
    ReturnsInHanded {} Tryz.checked os 4 .any (fun w args => (Rows.replyChangesSpec.pre enc Tryz.prog Tryz.f4 Rows.replyChangesRow.domain false w args ∧ laidMetH Tryz.prog Rows.replyChangesRow.laid w) ∧ sizedMet enc Tryz.prog Tryz.f4 (OpenSpec.ofChange Rows.replyChangesSpec) false w args) (Rows.replyChangesSpec.post enc Tryz.prog Tryz.f4 false true false false) := by
  refine returns_and_shaped (C := Tryz.checked) (X := fun w _ => laidMetH Tryz.prog Rows.replyChangesRow.laid w) (fun _ _ _ hh h => h.of_heap hh) own started (by kernel_rfl) Tryz.func4
    (ChangeSpec.witness_shaped (enc := enc) (C := Tryz.checked) (os := os) (X := fun w _ => laidMetH Tryz.prog Rows.replyChangesRow.laid w) false (World.laidAll Tryz.prog os Rows.replyChangesRow.laid) #[.slice none 0 0, .int .i64 0] 8 (World.laidAll_os _ _ _)
      (World.shaped_of_ZipB (by kernel_rfl) (by kernel_rfl)) (by kernel_rfl) (by kernel_rfl) (by kernel_rfl)
      (by rw [MakeChecks.laidMetH_plain _ _ _ (by kernel_rfl)]; exact laidMet_laidAll _ (by kernel_rfl) (by kernel_rfl))) ?_
  intro W base args ds gs before hval0 hW hcnd hsz0 hL hS
  have hval : ∀ (j : Nat) t v, Tryz.f4.params[j]? = some t → args[j]? = some v → Value.okWide Tryz.prog W .any base t v := hval0
  have hW' := hW
  obtain ⟨p, q, hA0, hV, rfl, hfz, hnd⟩ := hW
  have hA : DataW.TrodAll enc Tryz.prog W 0 (fun _ => true) true [29, 3] args.toList ds p := hA0
  obtain ⟨rfl, rfl⟩ := trodVars_none hV
  obtain ⟨xs, hH⟩ := open_all good [29, 3] args.toList ds p (by decide) hA (fun j t v ht hv => hval j t v (by rw [Tryz.params4]; simpa using ht) (by simpa using hv)) fun n hn => by
    have hz : (DataW.weightsEach Tryz.prog (Tryz.f4.params.toList ++ Rows.replyChangesSpec.plain.varTypes Tryz.prog) (ds ++ [])).all (· ≤ reachBytes) = true := hsz0
    rw [Tryz.params4] at hz
    have := List.all_eq_true.1 hz n (weights_app n hn)
    simpa using this
  have hD := EC.replyChanges_law W args.toList xs hH
  have hok := Den.denI_ok (T := Tabs) follows Tabs.below EC.ext_ok 4 xs _ hD
  refine (Den.law_calls hok (tabs_laid (by rw [MakeChecks.laidMetH_plain _ _ _ (by kernel_rfl)] at hL; exact hL) hS) hH).mono fun e W' ⟨he, bel⟩ => ?_
  subst he
  have hback := carry_all laidOut bel [29, 3] args.toList ds p (by kernel_rfl) hA
  obtain ⟨v0, vs0, d0, ds0, p0, q0, hargs0, rfl, rfl, h0, r0⟩ := trodAll_cons hA
  obtain ⟨v1, vs1, d1, ds1, p1, q1, hargs1, rfl, rfl, h1, r1⟩ := trodAll_cons r0
  obtain ⟨_, rfl, _⟩ := trodAll_nil r1
  exact ⟨_, rfl, _, _, _, [], _, [], hW', trodAll_mk1 (shut_bool Tryz.underlying4 _), hback, rfl, bel.frame _, fun h => by cases h⟩
theorem over : Rows.replyChangesRow.holds Tryz.pinned (OpenSpec.ofChange Rows.replyChangesSpec) :=
  OpenClaim.holds_of_wide 4 Tryz.f4 rfl rfl rfl rfl rfl rfl rfl ⟨rfl, rfl, rfl, rfl, rfl⟩ rfl rfl rfl rfl rfl (by kernel_rfl) Tryz.func4 (by kernel_rfl)
    (of_decide_eq_true (by kernel_rfl)) (by unfold Func.isWrapper; first | (rw [if_pos (by decide +kernel)]; kernel_rfl) | (rw [if_neg (by decide +kernel)]; exact ⟨rfl, rfl⟩))
    (fun os started H enc _ => lifted os started H enc)
theorem card : Rows.ReplyChangesCardSaid :=
  Claim7.holds_tied_plain_at .later [] [.data, .data, .data, .data, .pinned] true (true, "659ed9991f33e97e3d8b980347ba9c2a1e08588dd83fbf37082a2ffb49c49e8b") false over (fun _ h => by cases h) (by kernel_rfl) (fun _ h => by cases h) replyChanges_row_tie rfl ⟨rfl, rfl⟩ (by kernel_rfl) rfl
    (fun f fn hf hfn => by
      obtain rfl : f = 4 := Option.some.inj ((show Tryz.prog.funcNamed Rows.replyChangesRow.func = some 4 by kernel_rfl).symm.trans hf) |>.symm
      obtain rfl : fn = Tryz.f4 := (Option.some.inj (Tryz.func4.symm.trans hfn)).symm
      refine ⟨by kernel_rfl, fun j t ht => ?_⟩
      have hall : (Tryz.f4.params.toList.all fun u => !Tryz.prog.wantsStandIn u) = true := by kernel_rfl
      have hm : t ∈ Tryz.f4.params.toList := by simpa using Array.mem_of_getElem? ht
      exact (show Tryz.prog.wantsStandIn t = false by simpa using List.all_eq_true.1 hall t hm))
    (by kernel_rfl)
end Go.Proofs.YtbkdoeghgdbjlaaGreatDoor.replyChanges
namespace Go.Proofs.YtbkdoeghgdbjlaaGreatDoor
theorem replyChanges_holds : Rows.ReplyChangesCardSaid := replyChanges.card
end Go.Proofs.YtbkdoeghgdbjlaaGreatDoor
