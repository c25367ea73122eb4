/- ReplyBack: whatever the input, the law returns true; each argument reads behind the call as it read before. No condition. -/
import Derived.Test.YtbkdoeghgdbjlaaGreatDoorDenV
import Derived.Lib.IndexBytes
import Derived.Lib.IndexMore
import Derived.Lib.ItoaNum
import Derived.Laws.Strings
import Derived.Laws.BitsLemmas
import Derived.Lib.Fields
import Derived.Lib.TrimByte
import Derived.Test.YtbkdoeghgdbjlaaGreatDoorEBx0
import Derived.Test.YtbkdoeghgdbjlaaGreatDoorEBx1
import Derived.Test.YtbkdoeghgdbjlaaGreatDoorEBx2
import Derived.Lib.Split
import Derived.Lib.SplitLaws
import Derived.Test.YtbkdoeghgdbjlaaGreatDoorDenY
import Derived.Test.YtbkdoeghgdbjlaaGreatDoorTie
import Derived.Test.YtbkdoeghgdbjlaaGreatDoorCards
import Derived.LaidMore
import Derived.Lay
import Derived.SevenTiedAt
import Derived.Stop.Joined
import Derived.Handy
import Derived.Test.YtbkdoeghgdbjlaaGreatDoorDenU
import Derived.Test.YtbkdoeghgdbjlaaGreatDoorRows
import Derived.Test.YtbkdoeghgdbjlaaGreatDoorEBh
/- Decimals as texts: the plain part. -/
namespace Go.Den
open Go Go.RowKit Go.Proofs
set_option linter.unusedVariables false
set_option linter.unusedSimpArgs false
theorem u64w (x : Int) : IntKind.u64.wrap x = x % 18446744073709551616 := by
  simp [IntKind.wrap, IntKind.bits, IntKind.signed]
theorem u64i {x : Int} (h0 : 0 ≤ x) (h : x < 18446744073709551616) : IntKind.u64.wrap x = x := by
  rw [u64w]; omega
theorem and32 {a : Int} (h0 : 0 ≤ a) (h1 : a < 18446744073709551616) : Go.bits .and .u64 a 4294967295 = a % 4294967296 :=
  bits_mask .u64 64 (by decide) (fun n h0 h1 => u64i h0 (by simpa using h1)) 32 (by decide) a h0 (by simpa using h1)
theorem prodB {x y : Int} (hx0 : 0 ≤ x) (hx : x ≤ 4294967295) (hy0 : 0 ≤ y) (hy : y ≤ 4294967295) : 0 ≤ x * y ∧ x * y ≤ 18446744065119617025 :=
  ⟨Int.mul_nonneg hx0 hy0, Int.le_trans (Int.mul_le_mul hx hy hy0 (by decide)) (by decide)⟩
def B (l : List UInt8) : ByteArray := ⟨l.toArray⟩
theorem B_of (s : ByteArray) : ∃ l, s = B l := ⟨s.data.toList, by rcases s with ⟨⟨l⟩⟩; rfl⟩
theorem B_data (l : List UInt8) : (B l).data.toList = l := rfl
theorem B_size (l : List UInt8) : (B l).size = l.length := rfl
theorem B_append (l m : List UInt8) : B l ++ B m = B (l ++ m) := by
  apply ByteArray.ext
  simp [B]
theorem B_toList (l : List UInt8) : (B l).toList = l := by
  exact ByteArray.toList_eq _
theorem B_inj {l m : List UInt8} : B l = B m ↔ l = m := ⟨fun h => by have := congrArg (fun s : ByteArray => s.data.toList) h; exact this, fun h => by rw [h]⟩
theorem B_extract (l : List UInt8) (i j : Nat) : (B l).extract i j = B ((l.drop i).take (j - i)) := by
  apply ByteArray.ext
  simp [B]
theorem B_bt {l : List UInt8} {i : Nat} (h : i < l.length) : bt (B l) (i : Int) = (l[i].toNat : Int) := by
  unfold bt
  rw [dif_pos (show ((i : Int)).toNat < (B l).size by rw [Int.toNat_natCast]; exact h)]
  rfl
def May (x : Int) : Prop := -9223372036854775808 < x ∧ x ≤ 9223372036854775807
instance (x : Int) : Decidable (May x) := by unfold May; infer_instance
/-- The sign of what three signs give. -/
def sg (a b c q : Int) : Int := if ((decide (a < 0) != decide (b < 0)) != decide (c < 0)) = true then -q else q
theorem natAbs_lt {x : Int} (h : May x) : 0 ≤ (x.natAbs : Int) ∧ (x.natAbs : Int) ≤ 9223372036854775807 := by unfold May at h; omega
theorem abs_prod {a b : Int} (ha : May a) (hb : May b) : 0 ≤ (a.natAbs : Int) * b.natAbs ∧ (a.natAbs : Int) * b.natAbs ≤ 85070591730234615847396907784232501249 :=
  ⟨Int.mul_nonneg (natAbs_lt ha).1 (natAbs_lt hb).1, Int.le_trans (Int.mul_le_mul (natAbs_lt ha).2 (natAbs_lt hb).2 (natAbs_lt hb).1 (by decide)) (by decide)⟩

def I64 (x : Int) : Prop := -9223372036854775808 ≤ x ∧ x ≤ 9223372036854775807
theorem May.i {x : Int} (h : May x) : I64 x := by unfold May at h; unfold I64; omega
def addS (a b : Int) : Int × Bool := if May a ∧ May b ∧ May (a + b) then (a + b, true) else (0, false)
def negS (a : Int) : Int × Bool := if May a then (-a, true) else (0, false)
def subS (a b : Int) : Int × Bool := if May a ∧ May b ∧ May (a - b) then (a - b, true) else (0, false)
theorem addS_yes {a b : Int} (h : May a ∧ May b ∧ May (a + b)) : addS a b = (a + b, true) := if_pos h
theorem addS_no {a b : Int} (h : ¬ May (a + b)) : addS a b = (0, false) := if_neg (fun hh => h hh.2.2)
theorem tdm (a : Int) {m : Int} (hm : 0 < m) : a = a.tdiv m * m + a.tmod m ∧ (0 ≤ a → 0 ≤ a.tmod m ∧ a.tmod m < m) ∧ (a ≤ 0 → -m < a.tmod m ∧ a.tmod m ≤ 0) := by
  refine ⟨(Int.tdiv_mul_add_tmod a m).symm, fun h => ⟨Int.tmod_nonneg _ h, Int.tmod_lt_of_pos _ hm⟩, fun h => ?_⟩
  have h1 := Int.tmod_nonneg m (a := -a) (by omega)
  have h2 := Int.tmod_lt_of_pos (-a) hm
  rw [Int.neg_tmod] at h1 h2
  omega
def mulS (a b : Int) : Int × Bool := if May a ∧ May b ∧ May (a * b) then (a * b, true) else (0, false)
theorem mulS_yes {a b : Int} (h : May a ∧ May b ∧ May (a * b)) : mulS a b = (a * b, true) := if_pos h
theorem mulS_no {a b : Int} (h : ¬ May (a * b)) : mulS a b = (0, false) := if_neg (fun hh => h hh.2.2)
theorem sg_one (a b : Int) : sg a b 1 ((a.natAbs : Int) * b.natAbs) = a * b := by
  unfold sg
  rcases (by omega : a < 0 ∨ 0 ≤ a) with ha | ha <;> rcases (by omega : b < 0 ∨ 0 ≤ b) with hb | hb
  · rw [decide_eq_true ha, decide_eq_true hb, Int.ofNat_natAbs_of_nonpos (by omega), Int.ofNat_natAbs_of_nonpos (by omega)]
    simp [Int.neg_mul_neg]
  · rw [decide_eq_true ha, decide_eq_false (by omega), Int.ofNat_natAbs_of_nonpos (by omega), Int.natAbs_of_nonneg hb]
    simp [Int.neg_mul]
  · rw [decide_eq_false (by omega), decide_eq_true hb, Int.natAbs_of_nonneg ha, Int.ofNat_natAbs_of_nonpos (by omega)]
    simp [Int.mul_neg]
  · rw [decide_eq_false (by omega), decide_eq_false (by omega), Int.natAbs_of_nonneg ha, Int.natAbs_of_nonneg hb]
    simp
theorem mul64_math {a b : Int} (ha0 : 0 ≤ a) (ha : a < 18446744073709551616) (hb0 : 0 ≤ b) (hb : b < 18446744073709551616) :
    ∃ p11 p10 p01 p00 : Int, p11 = (a / 4294967296) * (b / 4294967296) ∧ p10 = (a / 4294967296) * (b % 4294967296) ∧ p01 = (a % 4294967296) * (b / 4294967296) ∧ p00 = (a % 4294967296) * (b % 4294967296)
      ∧ (0 ≤ p11 ∧ p11 ≤ 18446744065119617025) ∧ (0 ≤ p10 ∧ p10 ≤ 18446744065119617025) ∧ (0 ≤ p01 ∧ p01 ≤ 18446744065119617025) ∧ (0 ≤ p00 ∧ p00 ≤ 18446744065119617025)
      ∧ a * b = p11 * 18446744073709551616 + (p10 + p01) * 4294967296 + p00 := by
  refine ⟨_, _, _, _, rfl, rfl, rfl, rfl, prodB (by omega) (by omega) (by omega) (by omega), prodB (by omega) (by omega) (by omega) (by omega), prodB (by omega) (by omega) (by omega) (by omega), prodB (by omega) (by omega) (by omega) (by omega), ?_⟩
  have ea : a = a / 4294967296 * 4294967296 + a % 4294967296 := by omega
  have eb : b = b / 4294967296 * 4294967296 + b % 4294967296 := by omega
  generalize a / 4294967296 = x1 at *
  generalize a % 4294967296 = x0 at *
  generalize b / 4294967296 = y1 at *
  generalize b % 4294967296 = y0 at *
  subst ea eb
  grind

def dc (n : Nat) : UInt8 := UInt8.ofNat (48 + n)
theorem dd_small {n : Nat} (h : n < 10) : Lib.decDigits n = [dc n] := by rw [Lib.decDigits, dif_pos h]; rfl
theorem dd_big {n : Nat} (h : ¬ n < 10) : Lib.decDigits n = Lib.decDigits (n / 10) ++ [dc (n % 10)] := by rw [Lib.decDigits, dif_neg h]; rfl
/-- The digits ahead of the last one. -/
def dg (n : Nat) : List UInt8 := if n = 0 then [] else Lib.decDigits n
theorem dg_step (n : Nat) : dg (n / 10) ++ [dc (n % 10)] = Lib.decDigits n := by
  by_cases h : n < 10
  · rw [dd_small h, dg, if_pos (by omega), List.nil_append, Nat.mod_eq_of_lt h]
  · rw [dd_big h, dg, if_neg (by omega)]
theorem dd_len (d : Nat) : ∀ n, n < 10 ^ (d + 1) → (Lib.decDigits n).length ≤ d + 1 := by
  induction d with
  | zero => intro n h; rw [dd_small (by simpa using h)]; simp
  | succ d ih =>
    intro n h
    by_cases h1 : n < 10
    · rw [dd_small h1]; simp
    · rw [dd_big h1, List.length_append]
      have := ih (n / 10) (by rw [Nat.pow_succ] at h; omega)
      simp
      omega
/-- The parts behind the point: no nought at the end. -/
def fracL : Nat → Nat → List UInt8
  | 0, _ => []
  | d + 1, r => if r = 0 then [] else dc (r / 1000) :: fracL d (r % 1000 * 10)
def fracS (r : Nat) : List UInt8 := if r = 0 then [] else 46 :: fracL 4 r
def texL (x : Int) : List UInt8 := (if x < 0 then [45] else []) ++ Lib.decDigits (x.natAbs / 10000) ++ fracS (x.natAbs % 10000)
def texS (x : Int) : List UInt8 := if May x then texL x else []
theorem head_len {x : Int} (h : May x) : ((if x < 0 then [45] else []) ++ Lib.decDigits (x.natAbs / 10000) : List UInt8).length ≤ 17 := by
  have h1 := dd_len 15 (x.natAbs / 10000) (by unfold May at h; omega)
  rw [List.length_append]
  split <;> simp <;> omega
theorem itoa_nat (n : Nat) : Lib.itoa (n : Int) = Lib.decDigits n := by
  unfold Lib.itoa
  rw [if_neg (by omega), Int.toNat_natCast]
theorem itoa_neg {n : Nat} (h : 0 < n) : Lib.itoa (-(n : Int)) = 45 :: Lib.decDigits n := by
  unfold Lib.itoa
  rw [if_pos (by omega), Int.natAbs_neg, Int.natAbs_natCast]
theorem four {r : Nat} (h : r < 10000) : Lib.decDigits (10000 + r) = [49, dc (r / 1000), dc (r / 100 % 10), dc (r / 10 % 10), dc (r % 10)] := by
  rw [dd_big (by omega), dd_big (by omega), dd_big (by omega), dd_big (by omega), dd_small (by omega)]
  rw [show (10000 + r) / 10 / 10 / 10 / 10 = 1 by omega, show (10000 + r) / 10 / 10 / 10 % 10 = r / 1000 by omega, show (10000 + r) / 10 / 10 % 10 = r / 100 % 10 by omega, show (10000 + r) / 10 % 10 = r / 10 % 10 by omega, show (10000 + r) % 10 = r % 10 by omega]
  rfl
theorem dc_eq {n : Nat} (h : n < 10) : (dc n == 48) = decide (n = 0) := by
  have : ∀ m : Fin 10, (dc m.val == 48) = decide (m.val = 0) := by decide
  exact this ⟨n, h⟩
theorem trim_eq {r : Nat} (h : r < 10000) (h0 : r ≠ 0) : Lib.trimRightB [dc (r / 1000), dc (r / 100 % 10), dc (r / 10 % 10), dc (r % 10)] 48 = fracL 4 r := by
  have e1 := dc_eq (n := r / 1000) (by omega)
  have e2 := dc_eq (n := r / 100 % 10) (by omega)
  have e3 := dc_eq (n := r / 10 % 10) (by omega)
  have e4 := dc_eq (n := r % 10) (by omega)
  have s1 : fracL 4 r = dc (r / 1000) :: fracL 3 (r % 1000 * 10) := by rw [fracL, if_neg h0]
  have s2 : r % 1000 * 10 ≠ 0 → fracL 3 (r % 1000 * 10) = dc (r / 100 % 10) :: fracL 2 (r % 100 * 100) := fun hh => by
    rw [fracL, if_neg hh, show r % 1000 * 10 / 1000 = r / 100 % 10 by omega, show r % 1000 * 10 % 1000 * 10 = r % 100 * 100 by omega]
  have s3 : r % 100 * 100 ≠ 0 → fracL 2 (r % 100 * 100) = dc (r / 10 % 10) :: fracL 1 (r % 10 * 1000) := fun hh => by
    rw [fracL, if_neg hh, show r % 100 * 100 / 1000 = r / 10 % 10 by omega, show r % 100 * 100 % 1000 * 10 = r % 10 * 1000 by omega]
  have s4 : r % 10 * 1000 ≠ 0 → fracL 1 (r % 10 * 1000) = [dc (r % 10)] := fun hh => by
    rw [fracL, if_neg hh, show r % 10 * 1000 / 1000 = r % 10 by omega]; rfl
  have z : ∀ d, fracL d 0 = [] := fun d => by cases d <;> simp [fracL]
  rw [s1]
  unfold Lib.trimRightB
  simp only [List.reverse_cons, List.reverse_nil, List.nil_append, List.cons_append]
  by_cases h4 : r % 10 = 0
  · rw [List.dropWhile_cons_of_pos (by rw [e4]; exact decide_eq_true h4)]
    by_cases h3 : r / 10 % 10 = 0
    · rw [List.dropWhile_cons_of_pos (by rw [e3]; exact decide_eq_true h3)]
      by_cases h2 : r / 100 % 10 = 0
      · rw [List.dropWhile_cons_of_pos (by rw [e2]; exact decide_eq_true h2), List.dropWhile_cons_of_neg (by rw [e1]; simp; omega), show r % 1000 * 10 = 0 by omega, z]
        rfl
      · rw [List.dropWhile_cons_of_neg (by rw [e2]; simp; omega), s2 (by omega), show r % 100 * 100 = 0 by omega, z]
        rfl
    · rw [List.dropWhile_cons_of_neg (by rw [e3]; simp; omega), s2 (by omega), s3 (by omega), show r % 10 * 1000 = 0 by omega, z]
      rfl
  · rw [List.dropWhile_cons_of_neg (by rw [e4]; simp; omega), s2 (by omega), s3 (by omega), s4 (by omega)]
    rfl
theorem rest_of {x : Int} (h : May x) : x.tmod 10000 = (if x < 0 then -((x.natAbs % 10000 : Nat) : Int) else ((x.natAbs % 10000 : Nat) : Int)) := by
  have t := tdm x (m := 10000) (by decide)
  split <;> omega
def isD (b : UInt8) : Bool := decide (48 ≤ b.toNat) && decide (b.toNat ≤ 57)
def valL : List UInt8 → Nat → Nat
  | [], n => n
  | b :: l, n => valL l (n * 10 + (b.toNat - 48))
theorem valL_ge : ∀ (l : List UInt8) (n : Nat), n ≤ valL l n
  | [], n => Nat.le_refl _
  | b :: l, n => Nat.le_trans (by omega) (valL_ge l _)
def numS (w : List UInt8) : Int × Bool := if w ≠ [] ∧ w.all isD = true ∧ (valL w 0 : Int) ≤ 9223372036854775807 then ((valL w 0 : Int), true) else (0, false)
def minusL (l : List UInt8) : Bool := Lib.hasPrefix l [45]
def bodyL (l : List UInt8) : List UInt8 := Lib.trimPrefix l [45]
/-- Ahead of the first point, behind it, is there one? -/
def cutL : List UInt8 → List UInt8 × List UInt8 × Bool
  | [] => ([], [], false)
  | b :: l => if b = 46 then ([], l, true) else (b :: (cutL l).1, (cutL l).2.1, (cutL l).2.2)
theorem idx_range : ∀ (l : List UInt8) (c : UInt8), -1 ≤ Lib.indexByte l c ∧ Lib.indexByte l c < (l.length : Int)
  | [], c => by unfold Lib.indexByte; simp
  | b :: l, c => by
    have := idx_range l c
    unfold Lib.indexByte
    simp only [List.length_cons]
    split
    · omega
    · split <;> omega
theorem cut_eq (l : List UInt8) : Lib.cut l [46] = cutL l := by
  unfold Lib.cut
  rw [Lib.index_one]
  induction l with
  | nil => rfl
  | cons b l ih =>
    have ei : Lib.indexByte (b :: l) 46 = if (b == 46) = true then 0 else if (Lib.indexByte l 46 == -1) = true then -1 else Lib.indexByte l 46 + 1 := by rw [Lib.indexByte]
    rw [cutL]
    by_cases hb : b = 46
    · rw [if_pos (by simp [hb])] at ei
      rw [ei, if_pos (by decide), if_pos hb]
      rfl
    · rw [if_neg (by simp [hb])] at ei
      have hr := idx_range l 46
      rw [if_neg hb]
      generalize Lib.indexByte (b :: l) 46 = i at *
      generalize Lib.indexByte l 46 = j at *
      by_cases hj : j = -1
      · subst hj
        rw [if_pos (by decide)] at ei
        subst ei
        rw [if_neg (by decide)] at ih
        rw [if_neg (by decide), ← ih]
      · obtain ⟨n, rfl⟩ : ∃ n : Nat, j = n := ⟨j.toNat, by omega⟩
        rw [if_neg (by simp)] at ei
        subst ei
        rw [if_pos (by omega)] at ih
        rw [if_pos (by omega), ← ih, show ((n : Int) + 1).toNat = n + 1 by omega, Int.toNat_natCast]
        simp
/-- Ten-thousandths. -/
def totL (c : List UInt8 × List UInt8 × Bool) : Nat := valL c.1 0 * 10000 + valL c.2.1 0 * 10 ^ (4 - c.2.1.length)
def rightL (c : List UInt8 × List UInt8 × Bool) : Prop := c.1 ≠ [] ∧ c.1.all isD = true ∧ (c.2.2 = true → c.2.1 ≠ [] ∧ c.2.1.all isD = true ∧ c.2.1.length ≤ 4) ∧ (totL c : Int) ≤ 9223372036854775807
instance (c : List UInt8 × List UInt8 × Bool) : Decidable (rightL c) := by unfold rightL; infer_instance
def readL (l : List UInt8) : Int × Bool :=
  if l.length ≤ 40 ∧ rightL (cutL (bodyL l)) then (if minusL l = true then -(totL (cutL (bodyL l)) : Int) else (totL (cutL (bodyL l)) : Int), true) else (0, false)
theorem cut_len : ∀ l : List UInt8, (cutL l).1.length ≤ l.length ∧ (cutL l).2.1.length ≤ l.length ∧ ((cutL l).2.2 = false → (cutL l).2.1 = [])
  | [] => ⟨Nat.le_refl _, Nat.le_refl _, fun _ => rfl⟩
  | b :: l => by
    obtain ⟨h1, h2, h3⟩ := cut_len l
    unfold cutL
    by_cases hb : b = 46
    · rw [if_pos hb]
      exact ⟨Nat.zero_le _, by simp, fun h => by cases h⟩
    · rw [if_neg hb]
      exact ⟨by simp; omega, by simp; omega, h3⟩
theorem pow_next {e : Nat} : 10 ^ (e + 1) = 10 ^ e * 10 := Nat.pow_succ ..
theorem val_lt : ∀ (l : List UInt8) (n : Nat), l.all isD = true → valL l n + 1 ≤ (n + 1) * 10 ^ l.length
  | [], n, _ => by simp [valL]
  | b :: l, n, h => by
    rw [List.all_cons, Bool.and_eq_true] at h
    have hb : b.toNat - 48 ≤ 9 := by
      have := h.1
      unfold isD at this
      simp at this
      omega
    have := val_lt l (n * 10 + (b.toNat - 48)) h.2
    rw [valL, List.length_cons, Nat.pow_succ]
    refine Nat.le_trans this ?_
    rw [Nat.mul_comm (10 ^ l.length) 10, ← Nat.mul_assoc]
    exact Nat.mul_le_mul_right _ (by omega)
theorem body_len (l : List UInt8) : (bodyL l).length ≤ l.length := by
  unfold bodyL Lib.trimPrefix
  split
  · rw [List.length_drop]; omega
  · exact Nat.le_refl _
theorem numS_yes {w : List UInt8} (h : w ≠ [] ∧ w.all isD = true ∧ (valL w 0 : Int) ≤ 9223372036854775807) : numS w = ((valL w 0 : Int), true) := if_pos h
theorem numS_no {w : List UInt8} (h : ¬ (w ≠ [] ∧ w.all isD = true ∧ (valL w 0 : Int) ≤ 9223372036854775807)) : numS w = (0, false) := if_neg h
theorem dc_nat {n : Nat} (h : n < 10) : (dc n).toNat = 48 + n := by
  have : ∀ m : Fin 10, (dc m.val).toNat = 48 + m.val := by decide
  exact this ⟨n, h⟩
theorem dc_isD {n : Nat} (h : n < 10) : isD (dc n) = true := by
  unfold isD
  rw [dc_nat h, decide_eq_true (by omega), decide_eq_true (by omega)]; rfl
theorem valL_append : ∀ (l m : List UInt8) (n : Nat), valL (l ++ m) n = valL m (valL l n)
  | [], m, n => rfl
  | b :: l, m, n => by rw [List.cons_append, valL, valL, valL_append l m]
theorem dd_ind (P : Nat → Prop) (h0 : ∀ n, n < 10 → P n) (h1 : ∀ n, ¬ n < 10 → P (n / 10) → P n) : ∀ n, P n := by
  intro n
  induction n using Nat.strongRecOn with
  | _ n ih =>
    by_cases h : n < 10
    · exact h0 n h
    · exact h1 n h (ih (n / 10) (by omega))
theorem dd_val (n : Nat) : valL (Lib.decDigits n) 0 = n := by
  refine dd_ind (fun n => valL (Lib.decDigits n) 0 = n) (fun n h => ?_) (fun n h ih => ?_) n
  · rw [dd_small h, valL, valL, dc_nat h]; omega
  · rw [dd_big h, valL_append, ih, valL, valL, dc_nat (Nat.mod_lt _ (by decide))]; omega
theorem dd_all (n : Nat) : (Lib.decDigits n).all isD = true := by
  refine dd_ind (fun n => (Lib.decDigits n).all isD = true) (fun n h => ?_) (fun n h ih => ?_) n
  · rw [dd_small h, List.all_cons, dc_isD h]; rfl
  · rw [dd_big h, List.all_append, ih, List.all_cons, dc_isD (Nat.mod_lt _ (by decide))]; rfl
theorem dd_ne (n : Nat) : Lib.decDigits n ≠ [] := by
  by_cases h : n < 10
  · rw [dd_small h]; simp
  · rw [dd_big h]; simp
theorem frac_all (d : Nat) : ∀ r, r < 10000 → (fracL d r).all isD = true := by
  induction d with
  | zero => intro r _; rfl
  | succ d ih =>
    intro r h
    rw [fracL]
    split
    · rfl
    · rw [List.all_cons, dc_isD (by omega), ih _ (by omega)]; rfl
theorem frac_len (d : Nat) : ∀ r, (fracL d r).length ≤ d := by
  induction d with
  | zero => intro r; exact Nat.le_refl _
  | succ d ih =>
    intro r
    rw [fracL]
    split
    · exact Nat.zero_le _
    · have := ih (r % 1000 * 10); rw [List.length_cons]; omega
theorem frac_val (d : Nat) : ∀ r m, d ≤ 4 → r < 10000 → r % 10 ^ (4 - d) = 0 → valL (fracL d r) m * 10 ^ (d - (fracL d r).length) = m * 10 ^ d + r / 10 ^ (4 - d) := by
  induction d with
  | zero =>
    intro r m _ h hz
    obtain rfl : r = 0 := by omega
    simp [fracL, valL]
  | succ d ih =>
    intro r m hd h hz
    rw [fracL]
    by_cases h0 : r = 0
    · subst h0
      rw [if_pos rfl]
      simp [valL]
    · rw [if_neg h0, valL, dc_nat (show r / 1000 < 10 by omega), List.length_cons]
      have hz2 : r % 1000 * 10 % 10 ^ (4 - d) = 0 := by
        have hd' : d = 0 ∨ d = 1 ∨ d = 2 ∨ d = 3 := by omega
        rcases hd' with rfl | rfl | rfl | rfl <;> simp at hz ⊢ <;> omega
      have := ih (r % 1000 * 10) (m * 10 + (48 + r / 1000 - 48)) (by omega) (by omega) hz2
      rw [show d + 1 - ((fracL d (r % 1000 * 10)).length + 1) = d - (fracL d (r % 1000 * 10)).length by omega, this]
      have hd' : d = 0 ∨ d = 1 ∨ d = 2 ∨ d = 3 := by omega
      rcases hd' with rfl | rfl | rfl | rfl <;> simp at hz ⊢ <;> omega
/-- Digits ahead of the point, and behind it. -/
def strD (w f : List UInt8) : List UInt8 := w ++ (if f = [] then [] else 46 :: f)
theorem isD_ne {b : UInt8} (h : isD b = true) : b ≠ 46 ∧ b ≠ 45 := by
  constructor <;> (intro e; subst e; revert h; decide)
theorem cut_str {w : List UInt8} (h : w.all isD = true) (f : List UInt8) : cutL (strD w f) = (w, f, f != []) := by
  unfold strD
  induction w with
  | nil =>
    by_cases hf : f = []
    · subst hf; rfl
    · rw [if_neg hf, List.nil_append, cutL, if_pos rfl, show (f != []) = true by simpa using hf]
  | cons b w ih =>
    rw [List.all_cons, Bool.and_eq_true] at h
    rw [List.cons_append, cutL, if_neg (isD_ne h.1).1, ih h.2]
theorem body_str {w : List UInt8} (h : w.all isD = true) (h0 : w ≠ []) (f : List UInt8) : minusL (strD w f) = false ∧ bodyL (strD w f) = strD w f := by
  rcases w with _ | ⟨b, w⟩
  · exact absurd rfl h0
  · rw [List.all_cons, Bool.and_eq_true] at h
    have hb : (b == (45 : UInt8)) = false := beq_eq_false_iff_ne.mpr (isD_ne h.1).2
    have hm : Lib.hasPrefix (strD (b :: w) f) [45] = false := by
      unfold strD
      rw [List.cons_append]
      simp [Lib.hasPrefix, List.isPrefixOf, Ne.symm (isD_ne h.1).2]
    refine ⟨hm, ?_⟩
    unfold bodyL Lib.trimPrefix
    rw [hm]; rfl
theorem body_minus (l : List UInt8) : minusL (45 :: l) = true ∧ bodyL (45 :: l) = l := by
  have hm : Lib.hasPrefix ((45 : UInt8) :: l) [45] = true := by simp [Lib.hasPrefix]
  refine ⟨hm, ?_⟩
  unfold bodyL Lib.trimPrefix
  rw [hm]; rfl
theorem right_str {w f : List UInt8} (h : w.all isD = true) (h0 : w ≠ []) (hf : f.all isD = true) (hl : f.length ≤ 4) {t : Nat} (ht : valL w 0 * 10000 + valL f 0 * 10 ^ (4 - f.length) = t) (hm : (t : Int) ≤ 9223372036854775807) :
    rightL (cutL (strD w f)) ∧ totL (cutL (strD w f)) = t := by
  rw [cut_str h]
  have e : totL (w, f, f != []) = t := ht
  refine ⟨⟨h0, h, fun hh => ⟨by simpa using hh, hf, hl⟩, by rw [e]; exact hm⟩, e⟩
theorem read_str {w f : List UInt8} (h : w.all isD = true) (h0 : w ≠ []) (hf : f.all isD = true) (hl : f.length ≤ 4) (hw : w.length ≤ 30) {t : Nat} (ht : valL w 0 * 10000 + valL f 0 * 10 ^ (4 - f.length) = t) (hm : (t : Int) ≤ 9223372036854775807) :
    readL (strD w f) = ((t : Int), true) ∧ readL (45 :: strD w f) = (-(t : Int), true) := by
  obtain ⟨hr, he⟩ := right_str h h0 hf hl ht hm
  have hs : (strD w f).length ≤ 35 := by
    unfold strD
    rw [List.length_append]
    split
    · simp; omega
    · rw [List.length_cons]; omega
  obtain ⟨b1, b2⟩ := body_str h h0 f
  obtain ⟨c1, c2⟩ := body_minus (strD w f)
  constructor
  · unfold readL
    rw [b2, b1, if_pos ⟨by omega, hr⟩, he]; rfl
  · unfold readL
    rw [c2, c1, if_pos ⟨by rw [List.length_cons]; omega, hr⟩, he]; rfl
theorem frac_nil {r : Nat} : (fracL 4 r = []) ↔ r = 0 := by
  rw [fracL]
  split <;> simp_all
theorem tex_str (x : Int) : texL x = (if x < 0 then [45] else []) ++ strD (Lib.decDigits (x.natAbs / 10000)) (fracL 4 (x.natAbs % 10000)) := by
  unfold texL strD fracS
  rw [List.append_assoc]
  by_cases h : x.natAbs % 10000 = 0
  · rw [if_pos h, if_pos (frac_nil.2 h)]
  · rw [if_neg h, if_neg (fun hh => h (frac_nil.1 hh))]
theorem tex_tot (n : Nat) : valL (Lib.decDigits (n / 10000)) 0 * 10000 + valL (fracL 4 (n % 10000)) 0 * 10 ^ (4 - (fracL 4 (n % 10000)).length) = n := by
  rw [dd_val, frac_val 4 (n % 10000) 0 (by decide) (by omega) (by simp; omega)]
  simp
  omega
theorem dd_len16 {x : Int} (h : May x) (hx : I64 x) : (Lib.decDigits (x.natAbs / 10000)).length ≤ 15 := dd_len 14 _ (by unfold May at h; unfold I64 at hx; omega)
theorem read_tex {x : Int} (h : May x) (hx : I64 x) : readL (texL x) = (x, true) := by
  have hl := dd_len16 h hx
  have hm : ((x.natAbs : Nat) : Int) ≤ 9223372036854775807 := by unfold May at h; unfold I64 at hx; omega
  obtain ⟨h1, h2⟩ := read_str (dd_all _) (dd_ne _) (frac_all 4 (x.natAbs % 10000) (by omega)) (frac_len 4 _) (by omega) (tex_tot x.natAbs) hm
  rw [tex_str]
  by_cases h0 : x < 0
  · rw [if_pos h0, List.singleton_append, h2, show -((x.natAbs : Nat) : Int) = x by omega]
  · rw [if_neg h0, List.nil_append, h1, show ((x.natAbs : Nat) : Int) = x by omega]
theorem read_texS {x : Int} (hx : I64 x) : readL (texS x) = (if May x then (x, true) else (0, false)) := by
  unfold texS
  split
  · exact read_tex (by assumption) hx
  · decide
def parseL (l : List UInt8) : Int × Bool := if (readL l).2 = true ∧ texS (readL l).1 = l then ((readL l).1, true) else (0, false)
theorem read_ok {l : List UInt8} : I64 (readL l).1 ∧ ((readL l).2 = true → May (readL l).1) := by
  unfold readL
  by_cases hh : l.length ≤ 40 ∧ rightL (cutL (bodyL l))
  · rw [if_pos hh]
    have := hh.2.2.2.2
    generalize totL (cutL (bodyL l)) = t at *
    unfold I64 May
    dsimp only
    split <;> omega
  · rw [if_neg hh]
    unfold I64
    exact ⟨by dsimp only; omega, fun h => by cases h⟩
theorem parse_texS {x : Int} (hx : I64 x) : parseL (texS x) = (if May x then (x, true) else (0, false)) := by
  unfold parseL
  rw [read_texS hx]
  by_cases h : May x
  · rw [if_pos h, if_pos ⟨rfl, rfl⟩]
  · rw [if_neg h, if_neg (fun hh => by cases hh.1)]
end Go.Den
/- Decimals as texts: what the program's functions, and the reference's digits, answer. -/
set_option linter.unusedVariables false
set_option linter.unusedSimpArgs false
set_option maxRecDepth 100000
namespace Go.Den.EB
open Go Go.Proofs
def pvG (g : Int × Bool) : PV := .tup [.sc (.int .i64 g.1), .sc (.bool g.2)]
theorem pvG_sh (g : Int × Bool) : hasSh (.tup [(.int .i64), .bool]) (pvG g) = true := rfl
theorem pvG_0 (g : Int × Bool) : (cel 0 (pvG g).parts).toInt = g.1 := rfl
theorem pvG_1 (g : Int × Bool) : (cel 1 (pvG g).parts).toBool = g.2 := rfl
theorem pvG_fold (a : Int) (b : Bool) : PV.tup [.sc (.int .i64 a), .sc (.bool b)] = pvG (a, b) := rfl
theorem may_ev {x : Int} (h : I64 x) : D 106 [.sc (.int .i64 x)] = some (.sc (.bool (decide (May x)))) := by
  rw [f106_eq 0]
  congr 3
  rw [Bool.eq_iff_iff, bne_iff_ne, decide_eq_true_iff]
  unfold I64 at h
  unfold May; omega
theorem units_ev {x : Int} (h : I64 x) : D 108 [.sc (.int .i64 x)] = some (.sc (.int .i64 (if May x then x.tdiv 10000 else 0))) := by
  rw [f108_eq 0]
  refine cb (may_ev h) rfl ?_
  simp only [tb]
  have t := tdm x (m := 10000) (by decide)
  unfold I64 at h
  by_cases hm : May x
  · rw [if_pos hm, decide_eq_true hm]
    refine im (by decide) ?_
    rw [w64 (by omega) (by omega)]
  · rw [if_neg hm, decide_eq_false hm]
    exact ip (by decide) rfl
theorem format_ev {n : Int} (h : I64 n) : D 107 [.sc (.int .i64 n), .sc (.int .i64 10)] = some (.sc (.string (B (Lib.itoa n)))) := by
  have e : D 107 [.sc (.int .i64 n), .sc (.int .i64 10)] = xFormatInt [.sc (.int .i64 n), .sc (.int .i64 10)] := (denI_eq 0 _ _).trans (by kernel_rfl)
  rw [e]
  unfold xFormatInt
  exact if_pos ⟨rfl, h.1, h.2⟩
theorem trimr_ev {l : List UInt8} (h : l.length ≤ 1000000) : D 109 [.sc (.string (B l)), .sc (.string (⟨#[48]⟩ : ByteArray))] = some (.sc (.string (B (Lib.trimRightB l 48)))) := by
  have e : D 109 [.sc (.string (B l)), .sc (.string (⟨#[48]⟩ : ByteArray))] = xTrimRight [.sc (.string (B l)), .sc (.string (⟨#[48]⟩ : ByteArray))] := (denI_eq 0 _ _).trans (by kernel_rfl)
  rw [e]
  unfold xTrimRight
  exact if_pos ⟨rfl, by decide, by rw [B_size]; omega⟩
theorem text_j {x : Int} (h : May x) {l : List UInt8} (hl : l.length ≤ 17) : f64.j0a 0 x (B l) = some (.sc (.string (B (l ++ fracS (x.natAbs % 10000))))) := by
  rw [f64.j0a_eq]
  have e := rest_of h
  have hr : x.natAbs % 10000 < 10000 := Nat.mod_lt _ (by decide)
  generalize x.natAbs % 10000 = r at *
  have em : IntKind.i64.wrap ((10000 : Int) + (if IntKind.i64.wrap (0 - (x.tmod 10000)) > x.tmod 10000 then IntKind.i64.wrap (0 - (x.tmod 10000)) else x.tmod 10000)) = ((10000 + r : Nat) : Int) := by
    rw [e]
    split
    · rw [w64 (x := 0 - -(r : Int)) (by omega) (by omega)]
      rw [w64 (by split <;> omega) (by split <;> omega)]
      split <;> omega
    · rw [w64 (x := 0 - (r : Int)) (by omega) (by omega)]
      rw [w64 (by split <;> omega) (by split <;> omega)]
      split <;> omega
  unfold fracS
  by_cases h0 : r = 0
  · refine ip (by rw [e, h0]; split <;> rfl) ?_
    rw [if_pos h0, List.append_nil]
  · refine im (by rw [e, beq_iff_eq]; split <;> omega) ?_
    rw [em, if_neg h0]
    refine cb (format_ev (by unfold I64; omega)) rfl ?_
    rw [itoa_nat, four hr]
    simp only [ts]
    refine ip (by rw [B_size]; exact Int.natCast_nonneg _) (ip (Int.le_refl _) (ip (by rw [B_size]; simp) (ip (by rw [B_size]; omega) ?_)))
    rw [B_extract]
    refine cb (trimr_ev (by rw [List.length_take, List.length_drop]; simp only [List.length_cons, List.length_nil]; omega)) rfl ?_
    rw [show (List.take (((B [49, dc (r / 1000), dc (r / 100 % 10), dc (r / 10 % 10), dc (r % 10)]).size : Int).toNat - 1) (List.drop 1 [49, dc (r / 1000), dc (r / 100 % 10), dc (r / 10 % 10), dc (r % 10)])) = [dc (r / 1000), dc (r / 100 % 10), dc (r / 10 % 10), dc (r % 10)] from rfl, trim_eq hr h0]
    have hf : (fracL 4 r).length ≤ 4 := frac_len 4 r
    have e46 : (⟨#[46]⟩ : ByteArray) = B [46] := rfl
    refine ip (by simp only [ts, e46, B_append, B_size]; simp; omega) ?_
    simp only [ts, e46, B_append]
    rw [List.append_assoc]
    rfl
theorem text_ev {x : Int} (hx : I64 x) : D 64 [.sc (.int .i64 x)] = some (.sc (.string (B (texS x)))) := by
  rw [f64_eq 0]
  refine cb (may_ev hx) rfl ?_
  simp only [tb]
  unfold texS
  by_cases h : May x
  · rw [if_pos h, decide_eq_true h]
    have hm := h
    unfold May at hm
    have t := tdm x (m := 10000) (by decide)
    refine im (by decide) (cb (units_ev hx) rfl ?_)
    rw [if_pos h]
    simp only [ti]
    refine cb (format_ev (by unfold I64 at *; omega)) rfl ?_
    have hl := head_len h
    unfold texL
    simp only [bA, tb, ts]
    by_cases h0 : x < 0
    · rw [if_pos h0] at hl ⊢
      by_cases h1 : x > -10000
      · rw [show x.tdiv 10000 = ((0 : Nat) : Int) by omega, itoa_nat, show x.natAbs / 10000 = 0 by omega]
        rw [show x.natAbs / 10000 = 0 by omega] at hl
        refine ip (by simp; omega) (ip (by rw [B_size]; simp at hl ⊢; omega) ?_)
        rw [show (⟨#[45]⟩ : ByteArray) = B [45] from rfl, B_append]
        exact text_j h hl
      · have hq : 0 < x.natAbs / 10000 := by omega
        rw [show x.tdiv 10000 = -((x.natAbs / 10000 : Nat) : Int) by omega, itoa_neg hq]
        refine im (by simp; omega) ?_
        exact text_j h hl
    · rw [if_neg h0] at hl ⊢
      rw [show x.tdiv 10000 = ((x.natAbs / 10000 : Nat) : Int) by omega, itoa_nat]
      refine im (by simp; omega) ?_
      exact text_j h hl
  · rw [if_neg h, decide_eq_false h]
    exact ip (by decide) rfl
/-- A count's text. -/
theorem count_ev {n : Int} (h0 : 0 ≤ n) (h1 : n ≤ 1000000000) : D 64 [.sc (.int .i64 (IntKind.i64.wrap (n * 10000)))] = some (.sc (.string (B (Lib.decDigits n.toNat)))) := by
  rw [w64 (by omega) (by omega), text_ev (by unfold I64; omega)]
  unfold texS
  rw [if_pos (by unfold May; omega)]
  unfold texL fracS
  rw [if_neg (by omega), if_pos (by omega), List.append_nil, List.nil_append, show (n * 10000).natAbs / 10000 = n.toNat by omega]
theorem digit_str (n : Nat) : bytesOf [PV.sc (.int .u8 (IntKind.u8.wrap (IntKind.i64.wrap ((48 : Int) + ((n : Int).tmod 10)))))] = B [dc (n % 10)] := by
  have e : Int.tmod (n : Int) 10 = ((n % 10 : Nat) : Int) := by rw [Int.tmod_eq_emod_of_nonneg (by omega)]; omega
  have h : n % 10 < 10 := Nat.mod_lt _ (by decide)
  have e8 : IntKind.u8.wrap ((48 + n % 10 : Nat) : Int) = ((48 + n % 10 : Nat) : Int) := by
    simp [IntKind.wrap, IntKind.bits, IntKind.signed]; omega
  rw [e, w64 (by omega) (by omega), show ((48 : Int) + ((n % 10 : Nat) : Int)) = ((48 + n % 10 : Nat) : Int) by omega, e8]
  rfl
theorem tens (n : Nat) (h : (n : Int) ≤ 9223372036854775807) : IntKind.i64.wrap (Int.tdiv (n : Int) 10) = ((n / 10 : Nat) : Int) := by
  rw [Int.tdiv_eq_ediv_of_nonneg (by omega), w64 (by omega) (by omega)]
  omega
theorem digits_l (d : Nat) : ∀ (n : Nat) (l : List UInt8), n < 10 ^ d → (n : Int) ≤ 9223372036854775807 → l.length + d ≤ 100 → f77.l0a 0 (n : Int) (B l) = some (.sc (.string (B (dg n ++ l)))) := by
  induction d with
  | zero =>
    intro n l h _ hl
    obtain rfl : n = 0 := by simpa using h
    rw [f77.l0a_eq]
    exact im (by decide) rfl
  | succ d ih =>
    intro n l h hu hl
    rw [f77.l0a_eq]
    by_cases h0 : n = 0
    · subst h0
      exact im (by decide) rfl
    · refine ip (by rw [decide_eq_true_eq]; omega) (ip rfl ?_)
      rw [digit_str, B_append, B_size, B_size, tens n hu]
      refine ip (by simp; omega) ?_
      have := ih (n / 10) ([dc (n % 10)] ++ l) (by rw [Nat.pow_succ] at h; omega) (by omega) (by simp; omega)
      rw [← List.append_assoc, dg_step] at this
      rw [show dg n = Lib.decDigits n from if_neg h0]
      exact this
theorem digits_ev {n : Int} (h0 : 0 ≤ n) (h1 : n ≤ 1000000000000000000) : D 77 [.sc (.int .i64 n)] = some (.sc (.string (B (Lib.decDigits n.toNat)))) := by
  obtain ⟨m, rfl⟩ : ∃ m : Nat, n = m := ⟨n.toNat, by omega⟩
  rw [f77_eq 0]
  refine ip rfl ?_
  rw [digit_str, tens m (by omega)]
  have := digits_l 20 (m / 10) [dc (m % 10)] (by omega) (by omega) (by simp)
  rw [dg_step] at this
  exact this
end Go.Den.EB
/- Decimals as texts: which decimal a text means. -/
set_option linter.unusedVariables false
set_option linter.unusedSimpArgs false
set_option maxRecDepth 100000
namespace Go.Den.EB
open Go Go.Proofs
theorem w64h {x : Int} (h0 : 9223372036854775807 < x) (h1 : x ≤ 18446744073709551615) : IntKind.i64.wrap x = x - 18446744073709551616 := by
  simp [IntKind.wrap, IntKind.bits, IntKind.signed]; omega
theorem w64l {x : Int} (h0 : -18446744073709551616 ≤ x) (h1 : x < -9223372036854775808) : IntKind.i64.wrap x = x + 18446744073709551616 := by
  simp [IntKind.wrap, IntKind.bits, IntKind.signed]; omega
theorem add_ev {a b : Int} (ha : I64 a) (hb : I64 b) : D 138 [.sc (.int .i64 a), .sc (.int .i64 b)] = some (pvG (addS a b)) := by
  have hw : I64 (IntKind.i64.wrap (a + b)) := by
    unfold I64 at ha hb ⊢
    by_cases h1 : 9223372036854775807 < a + b
    · rw [w64h h1 (by omega)]; omega
    · by_cases h2 : a + b < -9223372036854775808
      · rw [w64l (by omega) h2]; omega
      · rw [w64 (by omega) (by omega)]; omega
  rw [f138_eq 0]
  simp only [may_ev ha, may_ev hb, may_ev hw, bs, shb, if_true, tb, bA, bO]
  unfold I64 at ha hb
  unfold addS
  by_cases h1 : 9223372036854775807 < a + b
  · rw [if_neg (by unfold May; omega)]
    refine ip ?_ rfl
    rw [w64h h1 (by omega)]
    simp only [Bool.or_eq_true, Bool.not_eq_true', Bool.and_eq_true, decide_eq_true_eq, decide_eq_false_iff_not]
    simp only [May]
    omega
  · by_cases h2 : a + b < -9223372036854775808
    · rw [if_neg (by unfold May; omega)]
      refine ip ?_ rfl
      rw [w64l (by omega) h2]
      simp only [Bool.or_eq_true, Bool.not_eq_true', Bool.and_eq_true, decide_eq_true_eq, decide_eq_false_iff_not]
      simp only [May]
      omega
    · simp only [w64 (x := a + b) (by omega) (by omega)]
      by_cases h3 : May a ∧ May b ∧ May (a + b)
      · rw [if_pos h3]
        refine im ?_ rfl
        simp only [Bool.or_eq_true, Bool.not_eq_true', Bool.and_eq_true, decide_eq_true_eq, decide_eq_false_iff_not] at h3 ⊢
        simp only [May] at h3 ⊢
        omega
      · rw [if_neg h3]
        refine ip ?_ rfl
        simp only [Bool.or_eq_true, Bool.not_eq_true', Bool.and_eq_true, decide_eq_true_eq, decide_eq_false_iff_not] at h3 ⊢
        simp only [May] at h3 ⊢
        omega
theorem neg_ev {a : Int} (ha : I64 a) : D 140 [.sc (.int .i64 a)] = some (pvG (negS a)) := by
  rw [f140_eq 0]
  refine cb (may_ev ha) rfl ?_
  simp only [tb]
  unfold negS
  by_cases h : May a
  · rw [if_pos h, decide_eq_true h]
    refine im (by decide) ?_
    unfold May at h
    rw [w64 (by omega) (by omega), Int.zero_sub]
    rfl
  · rw [if_neg h, decide_eq_false h]
    exact ip (by decide) rfl
theorem size_ev {x : Int} (h0 : 0 ≤ x) (h1 : x ≤ 9223372036854775807) : D 167 [.sc (.int .i64 x)] = some (.sc (.int .u64 x)) := by
  rw [f167_eq 0]
  refine im (by rw [decide_eq_true_eq]; omega) ?_
  rw [u64i h0 (by omega)]
theorem sign_ev {x : Int} (h0 : 0 ≤ x) : D 101 [.sc (.int .i64 x)] = some (.sc (.int .i64 (if x = 0 then 0 else 1))) := by
  rw [f101_eq 0]
  refine im (by rw [decide_eq_true_eq]; omega) ?_
  by_cases h : x = 0
  · rw [if_pos h]; exact im (by rw [decide_eq_true_eq]; omega) rfl
  · rw [if_neg h]; exact ip (by rw [decide_eq_true_eq]; omega) rfl
def pvU (a b : Int) : PV := .tup [.sc (.int .u64 a), .sc (.int .u64 b)]
theorem mul64_ev (a b : Int) (ha0 : 0 ≤ a) (ha : a < 18446744073709551616) (hb0 : 0 ≤ b) (hb : b < 18446744073709551616) :
    D 168 [.sc (.int .u64 a), .sc (.int .u64 b)] = some (pvU (a * b / 18446744073709551616) (a * b % 18446744073709551616)) := by
  obtain ⟨p11, p10, p01, p00, e11, e10, e01, e00, h11, h10, h01, h00, e⟩ := mul64_math ha0 ha hb0 hb
  rw [f168_eq 0]
  have ea : a.fdiv 4294967296 = a / 4294967296 := Int.fdiv_eq_ediv_of_nonneg _ (by decide)
  have eb : b.fdiv 4294967296 = b / 4294967296 := Int.fdiv_eq_ediv_of_nonneg _ (by decide)
  rw [and32 ha0 ha, and32 hb0 hb, ea, eb, ← e11, ← e10, ← e01, ← e00, u64i (x := p11) (by omega) (by omega), u64i (x := p10) (by omega) (by omega), u64i (x := p01) (by omega) (by omega), u64i (x := p00) (by omega) (by omega)]
  have e0 : p00.fdiv 4294967296 = p00 / 4294967296 := Int.fdiv_eq_ediv_of_nonneg _ (by decide)
  rw [e0, u64i (x := p10 + p00 / 4294967296) (by omega) (by omega), and32 (by omega) (by omega), u64w (a * b)]
  rw [u64i (x := (p10 + p00 / 4294967296) % 4294967296 + p01) (by omega) (by omega)]
  have e1 : (p10 + p00 / 4294967296).fdiv 4294967296 = (p10 + p00 / 4294967296) / 4294967296 := Int.fdiv_eq_ediv_of_nonneg _ (by decide)
  have e2 : ((p10 + p00 / 4294967296) % 4294967296 + p01).fdiv 4294967296 = ((p10 + p00 / 4294967296) % 4294967296 + p01) / 4294967296 := Int.fdiv_eq_ediv_of_nonneg _ (by decide)
  rw [e1, e2, u64w, u64w]
  unfold pvU
  congr 6
  omega
theorem div64_ev {lo : Int} (h0 : 0 ≤ lo) (h1 : lo < 18446744073709551616) : D 169 [.sc (.int .u64 0), .sc (.int .u64 lo), .sc (.int .u64 1)] = some (pvU lo 0) := by
  rw [f169_eq 0]
  refine im (by decide) ?_
  rw [f169.j0a_eq]
  refine im (by decide) ?_
  rw [f169.j1a_eq]
  refine ip (by decide) (ip (by decide) (ip (by decide) ?_))
  rw [Int.tdiv_one, Int.tmod_one, u64i h0 h1]
  rfl
theorem scaled_ev {a b : Int} (ha0 : 0 ≤ a) (ha : a ≤ 9223372036854775807) (hb0 : 0 < b) (hb : b ≤ 9223372036854775807) : D 137 [.sc (.int .i64 a), .sc (.int .i64 b), .sc (.int .i64 1)] = some (pvG (mulS a b)) := by
  have ma : May a := by unfold May; omega
  have mb : May b := by unfold May; omega
  have m1 : May 1 := by decide
  rw [f137_eq 0]
  simp only [may_ev (show I64 a by unfold I64; omega), may_ev (show I64 b by unfold I64; omega), may_ev (show I64 1 by unfold I64; omega), decide_eq_true ma, decide_eq_true mb, decide_eq_true m1, bs, shb, if_true, tb, bA, bO]
  refine im (by decide) (cb (size_ev (by decide) (by decide)) rfl (cb (size_ev ha0 ha) rfl (cb (size_ev (by omega) hb) rfl ?_)))
  simp only [ti]
  refine cb (mul64_ev a b ha0 (by omega) (by omega) (by omega)) rfl ?_
  show (if decide (a * b / 18446744073709551616 ≥ 1) = true then _ else _) = _
  have hp : 0 ≤ a * b := Int.mul_nonneg ha0 (by omega)
  have hq : a * b / 18446744073709551616 ≥ 0 := Int.ediv_nonneg hp (by decide)
  by_cases ho : a * b / 18446744073709551616 ≥ 1
  · refine ip (decide_eq_true ho) ?_
    rw [mulS_no (by unfold May; omega)]; rfl
  · refine im (by rw [decide_eq_true_eq]; exact ho) ?_
    have e0 : a * b / 18446744073709551616 = 0 := by omega
    have e1 : a * b % 18446744073709551616 = a * b := by omega
    rw [e0, e1]
    have hd := div64_ev (lo := a * b) hp (by omega)
    refine cb (x := pvU (a * b) 0) hd rfl ?_
    show (if decide ((0 : Int) ≥ IntKind.u64.wrap (1 - 0)) = true then _ else _) = _
    refine im (by decide) ?_
    show f137.j0a 0 a b 1 (a * b) = _
    rw [f137.j0a_eq]
    by_cases hm : a * b > 9223372036854775807
    · refine ip (decide_eq_true hm) ?_
      rw [mulS_no (by unfold May; omega)]; rfl
    · refine im (by rw [decide_eq_true_eq]; exact hm) (cb (sign_ev ha0) rfl (cb (sign_ev (by omega)) rfl (cb (sign_ev (by decide)) rfl ?_)))
      rw [mulS_yes ⟨ma, mb, by unfold May; omega⟩, w64 (x := a * b) (by omega) (by omega)]
      have hb1 : ¬ b = 0 := by omega
      by_cases hz : a = 0
      · simp only [ti, if_pos hz, if_neg hb1]
        exact im (by decide) rfl
      · simp only [ti, if_neg hz, if_neg hb1]
        exact im (by decide) rfl
theorem of_ev {x : Int} (h0 : 0 ≤ x) (h1 : x ≤ 9223372036854775807) : D 139 [.sc (.int .i64 x)] = some (pvG (mulS x 10000)) := by
  rw [f139_eq 0]
  exact cb (scaled_ev h0 h1 (by decide) (by decide)) rfl rfl
theorem number_l {w : List UInt8} (hw : w.length ≤ 1000000) (d : Nat) : ∀ (i n : Nat), i + d = w.length → (n : Int) ≤ 9223372036854775807 →
    f104.l0a 0 (B w) (n : Int) (w.length : Int) (i : Int) = some (pvG (if (w.drop i).all isD = true ∧ (valL (w.drop i) n : Int) ≤ 9223372036854775807 then ((valL (w.drop i) n : Int), w != []) else (0, false))) := by
  induction d with
  | zero =>
    intro i n h hn
    rw [f104.l0a_eq]
    refine im (by rw [decide_eq_true_eq]; omega) ?_
    rw [List.drop_eq_nil_of_le (by omega), if_pos ⟨rfl, hn⟩, B_toList, show (⟨#[]⟩ : ByteArray).toList = [] from B_toList []]
    rfl
  | succ d ih =>
    intro i n h hn
    have hi : i < w.length := by omega
    rw [f104.l0a_eq]
    have c1 : (0 : Int) ≤ (i : Int) := by omega
    have c2 : (i : Int) < ((B w).size : Int) := by rw [B_size]; omega
    refine ip (by rw [decide_eq_true_eq]; omega) (ip c1 (ip c2 ?_))
    simp only [if_pos c1, if_pos c2, bs, tb, bO]
    have eb : bt (B w) (i : Int) = (w[i].toNat : Int) := B_bt hi
    rw [List.drop_eq_getElem_cons hi, List.all_cons, valL]
    simp only [eb]
    generalize hb : w[i] = b
    by_cases hd : isD b = true
    · have hd2 : 48 ≤ b.toNat ∧ b.toNat ≤ 57 := by unfold isD at hd; simpa using hd
      refine im (by rw [Bool.or_eq_true, decide_eq_true_eq, decide_eq_true_eq]; omega) ?_
      rw [hd, Bool.true_and]
      refine cb (scaled_ev (by omega) hn (by decide) (by decide)) rfl ?_
      have e8 : IntKind.i64.wrap (IntKind.u8.wrap ((b.toNat : Int) - 48)) = ((b.toNat - 48 : Nat) : Int) := by
        have : IntKind.u8.wrap ((b.toNat : Int) - 48) = ((b.toNat - 48 : Nat) : Int) := by
          simp [IntKind.wrap, IntKind.bits, IntKind.signed]; omega
        rw [this, w64 (by omega) (by omega)]
      rw [e8]
      have hge := valL_ge (w.drop (i + 1)) (n * 10 + (b.toNat - 48))
      have hd9 : b.toNat - 48 ≤ 9 := by omega
      generalize b.toNat - 48 = c at *
      have ei : IntKind.i64.wrap ((i : Int) + 1) = ((i + 1 : Nat) : Int) := by rw [w64 (by omega) (by omega)]; rfl
      rw [ei]
      have bad : ∀ g : Int × Bool, D 138 [.sc (.int .i64 ((cel 0 (pvG (mulS (n : Int) 10)).parts).toInt)), .sc (.int .i64 (c : Int))] = some (pvG g) → ((!(mulS (n : Int) 10).2) || (!g.2)) = true → ((D 138 [.sc (.int .i64 ((cel 0 (pvG (mulS (n : Int) 10)).parts).toInt)), .sc (.int .i64 (c : Int))]).bind fun r5 => if hasSh (.tup [(.int .i64), .bool]) r5 = true then
              if ((!((cel 1 (pvG (mulS (n : Int) 10)).parts).toBool)) || (!((cel 1 r5.parts).toBool))) = true then
                some (.tup [.sc (.int .i64 0), .sc (.bool false)])
              else
                f104.l0a 0 (B w) ((cel 0 r5.parts).toInt) (w.length : Int) ((i + 1 : Nat) : Int)
              else none) = some (pvG (0, false)) := by
        intro g hg hbad
        refine cb hg rfl ?_
        simp only [pvG_0, pvG_1, tb]
        exact ip hbad rfl
      by_cases h3 : (n : Int) * 10 ≤ 9223372036854775807
      · have em : mulS (n : Int) 10 = ((n : Int) * 10, true) := mulS_yes (a := (n : Int)) (b := 10) ⟨by unfold May; omega, by decide, by unfold May; omega⟩
        by_cases h4 : (n : Int) * 10 + (c : Int) ≤ 9223372036854775807
        · rw [em]
          refine cb (add_ev (by show I64 ((n : Int) * 10); unfold I64; omega) (by unfold I64; omega)) rfl ?_
          simp only [pvG_0, pvG_1, tb]
          have ea := addS_yes (a := (n : Int) * 10) (b := (c : Int)) ⟨by unfold May; omega, by unfold May; omega, by unfold May; omega⟩
          refine im (by rw [ea]; simp) ?_
          rw [ea]
          have := ih (i + 1) (n * 10 + c) (by omega) (by omega)
          rw [show ((n * 10 + c : Nat) : Int) = (n : Int) * 10 + (c : Int) by omega] at this
          exact this
        · rw [if_neg (fun hh => by omega)]
          refine bad _ (add_ev (by rw [pvG_0, em]; show I64 ((n : Int) * 10); unfold I64; omega) (by unfold I64; omega)) ?_
          rw [pvG_0, em, addS_no (by unfold May; omega)]; rfl
      · have em : mulS (n : Int) 10 = (0, false) := mulS_no (by unfold May; omega)
        rw [if_neg (fun hh => by omega)]
        refine bad _ (add_ev (by rw [pvG_0, em]; show I64 0; unfold I64; omega) (by unfold I64; omega)) ?_
        rw [em]; rfl
    · have hd2 : ¬ (48 ≤ b.toNat ∧ b.toNat ≤ 57) := by unfold isD at hd; simpa using hd
      refine ip (by rw [Bool.or_eq_true, decide_eq_true_eq, decide_eq_true_eq]; omega) ?_
      rw [if_neg (by rw [Bool.and_eq_true]; exact fun hh => hd hh.1.1)]
      rfl
theorem number_ev {w : List UInt8} (hw : w.length ≤ 1000000) : D 104 [.sc (.string (B w))] = some (pvG (numS w)) := by
  rw [f104_eq 0]
  have := number_l hw w.length 0 0 (Nat.zero_add _) (by decide)
  rw [List.drop_zero] at this
  rw [B_size]
  have e : numS w = (if w.all isD = true ∧ (valL w 0 : Int) ≤ 9223372036854775807 then ((valL w 0 : Int), w != []) else (0, false)) := by
    unfold numS
    by_cases h0 : w = []
    · subst h0; rfl
    · by_cases h1 : w.all isD = true ∧ (valL w 0 : Int) ≤ 9223372036854775807
      · rw [if_pos ⟨h0, h1⟩, if_pos h1, show (w != []) = true by simpa using h0]
      · rw [if_neg (fun hh => h1 hh.2), if_neg h1]
  rw [e]
  exact this
def putS (x y : Nat) (m : Bool) : Int × Bool := if ((x * 10000 + y : Nat) : Int) ≤ 9223372036854775807 then (if m = true then -((x * 10000 + y : Nat) : Int) else ((x * 10000 + y : Nat) : Int), true) else (0, false)
theorem put_ev {x y : Nat} (hx : (x : Int) ≤ 9223372036854775807) (hy : (y : Int) ≤ 9223372036854775807) (m : Bool) : D 105 [.sc (.int .i64 (x : Int)), .sc (.int .i64 (y : Int)), .sc (.bool m)] = some (pvG (putS x y m)) := by
  rw [f105_eq 0]
  refine cb (of_ev (by omega) hx) rfl ?_
  unfold putS
  by_cases h1 : (x : Int) * 10000 ≤ 9223372036854775807
  · have em : mulS (x : Int) 10000 = ((x : Int) * 10000, true) := mulS_yes (a := (x : Int)) (b := 10000) ⟨by unfold May; omega, by decide, by unfold May; omega⟩
    rw [em]
    refine cb (add_ev (by show I64 ((x : Int) * 10000); unfold I64; omega) (by unfold I64; omega)) rfl ?_
    simp only [bO]
    simp only [pvG_0, pvG_1, tb]
    by_cases h2 : ((x * 10000 + y : Nat) : Int) ≤ 9223372036854775807
    · have ea := addS_yes (a := (x : Int) * 10000) (b := (y : Int)) ⟨by unfold May; omega, by unfold May; omega, by unfold May; omega⟩
      rw [if_pos h2]
      refine im (by rw [ea]; simp) ?_
      rw [ea]
      rw [show (x : Int) * 10000 + (y : Int) = ((x * 10000 + y : Nat) : Int) by omega]
      cases m
      · exact im (by decide) rfl
      · refine ip rfl (cb (neg_ev (by unfold I64; omega)) rfl ?_)
        rw [show negS ((x * 10000 + y : Nat) : Int) = (-((x * 10000 + y : Nat) : Int), true) from if_pos (by unfold May; omega)]
        rfl
    · rw [if_neg h2]
      exact ip (by rw [addS_no (by unfold May; omega)]; decide) rfl
  · have em : mulS (x : Int) 10000 = (0, false) := mulS_no (by unfold May; omega)
    rw [em, if_neg (by omega)]
    refine cb (add_ev (by show I64 0; unfold I64; omega) (by unfold I64; omega)) rfl ?_
    simp only [bO]
    simp only [pvG_0, pvG_1, tb]
    exact ip (by simp) rfl
theorem read_l {x y : Nat} {m : Bool} (hx : (x : Int) ≤ 9223372036854775807) {e : Nat} (he : e ≤ 4) (hy : y * 10 ^ e ≤ 1000000) (d : Nat) : ∀ i : Nat, i + d = e →
    f62.l0a 0 m (x : Int) ((y * 10 ^ i : Nat) : Int) (e : Int) (i : Int) = some (pvG (putS x (y * 10 ^ e) m)) := by
  induction d with
  | zero =>
    intro i h
    obtain rfl : i = e := by omega
    rw [f62.l0a_eq]
    refine im (by rw [decide_eq_true_eq]; omega) ?_
    exact cb (put_ev hx (by omega) m) rfl rfl
  | succ d ih =>
    intro i h
    have hle : y * 10 ^ (i + 1) ≤ y * 10 ^ e := Nat.mul_le_mul_left _ (Nat.pow_le_pow_right (by decide) (by omega))
    have e1 : IntKind.i64.wrap (((y * 10 ^ i : Nat) : Int) * 10) = ((y * 10 ^ (i + 1) : Nat) : Int) := by
      have h2 : y * 10 ^ (i + 1) = y * 10 ^ i * 10 := by rw [pow_next, Nat.mul_assoc]
      generalize y * 10 ^ (i + 1) = q at *
      generalize y * 10 ^ i = p at *
      generalize y * 10 ^ e = z at *
      subst h2
      rw [w64 (by omega) (by omega)]
      omega
    rw [f62.l0a_eq]
    refine ip (by rw [decide_eq_true_eq]; omega) ?_
    rw [e1, w64 (x := (i : Int) + 1) (by omega) (by omega)]
    exact ih (i + 1) (by omega)
theorem cutp_ev (l : List UInt8) : D 84 [.sc (.string (B l)), .sc (.string (⟨#[45]⟩ : ByteArray))] = some (.tup [.sc (.string (B (bodyL l))), .sc (.bool (minusL l))]) := by
  have e : D 84 [.sc (.string (B l)), .sc (.string (⟨#[45]⟩ : ByteArray))] = xCutPrefix [.sc (.string (B l)), .sc (.string (⟨#[45]⟩ : ByteArray))] := (denI_eq 0 _ _).trans (by kernel_rfl)
  rw [e]; rfl
theorem cut_ev {l : List UInt8} (h : l.length ≤ 1000000) : D 103 [.sc (.string (B l)), .sc (.string (⟨#[46]⟩ : ByteArray))] = some (.tup [.sc (.string (B (cutL l).1)), .sc (.string (B (cutL l).2.1)), .sc (.bool (cutL l).2.2)]) := by
  have e : D 103 [.sc (.string (B l)), .sc (.string (⟨#[46]⟩ : ByteArray))] = xCut [.sc (.string (B l)), .sc (.string (⟨#[46]⟩ : ByteArray))] := (denI_eq 0 _ _).trans (by kernel_rfl)
  rw [e]
  unfold xCut
  have ec : (Lib.cut (B l).data.toList (⟨#[46]⟩ : ByteArray).data.toList) = cutL l := cut_eq l
  dsimp only
  rw [ec]
  exact if_pos (by rw [B_size]; omega)
theorem read_ev {l : List UInt8} (hl : l.length ≤ 1000000) : D 62 [.sc (.string (B l))] = some (pvG (readL l)) := by
  rw [f62_eq 0]
  refine cb (cutp_ev l) rfl ?_
  rw [B_size]
  by_cases h40 : (l.length : Int) > 40
  · rw [show readL l = (0, false) from if_neg (fun hh => by omega)]
    exact ip (decide_eq_true h40) rfl
  · refine im (by rw [decide_eq_true_eq]; exact h40) ?_
    have hb := body_len l
    refine cb (cut_ev (l := bodyL l) (by omega)) rfl ?_
    have hc := cut_len (bodyL l)
    generalize hC : cutL (bodyL l) = c at *
    refine cb (number_ev (w := c.1) (by omega)) rfl (cb (number_ev (w := c.2.1) (by omega)) rfl ?_)
    have bad : ¬ rightL c → readL l = (0, false) := fun hh => if_neg (fun h2 => hh (by rw [hC] at h2; exact h2.2))
    have hle : valL c.1 0 ≤ totL c := by unfold totL; omega
    have es : ∀ (a b c : PV), (cel 1 (PV.tup [a, b, c]).parts) = b ∧ (cel 2 (PV.tup [a, b, c]).parts) = c := fun _ _ _ => ⟨rfl, rfl⟩
    have es2 : ∀ (a b : PV), (cel 1 (PV.tup [a, b]).parts) = b := fun _ _ => rfl
    simp only [bO, bA, bs]
    simp only [pvG_0, pvG_1, tb, (es _ _ _).1, (es _ _ _).2, ts, es2, B_size]
    have go : (numS c.1) = ((valL c.1 0 : Int), true) → (c.1 ≠ [] ∧ c.1.all isD = true ∧ (valL c.1 0 : Int) ≤ 9223372036854775807) → c.2.1.length ≤ 4 → valL c.2.1 0 * 10 ^ (4 - c.2.1.length) ≤ 1000000 → (c.2.2 = true → c.2.1 ≠ [] ∧ c.2.1.all isD = true ∧ c.2.1.length ≤ 4) → (numS c.2.1).1 = (valL c.2.1 0 : Int) → f62.l0a 0 (minusL l) (numS c.1).1 (numS c.2.1).1 (IntKind.i64.wrap ((4 : Int) - (c.2.1.length : Int))) 0 = some (pvG (readL l)) := by
      intro hn h1 h4 hy hr ey
      rw [hn, ey, w64 (x := 4 - (c.2.1.length : Int)) (by omega) (by omega), show (4 : Int) - (c.2.1.length : Int) = ((4 - c.2.1.length : Nat) : Int) by omega]
      have := read_l (x := valL c.1 0) (y := valL c.2.1 0) (m := minusL l) h1.2.2 (e := 4 - c.2.1.length) (by omega) hy (4 - c.2.1.length) 0 (Nat.zero_add _)
      rw [Nat.pow_zero, Nat.mul_one] at this
      have e : readL l = putS (valL c.1 0) (valL c.2.1 0 * 10 ^ (4 - c.2.1.length)) (minusL l) := by
        unfold readL putS
        rw [hC]
        show _ = if ((totL c : Nat) : Int) ≤ _ then (if minusL l = true then -((totL c : Nat) : Int) else ((totL c : Nat) : Int), true) else (0, false)
        by_cases ht : ((totL c : Nat) : Int) ≤ 9223372036854775807
        · rw [if_pos ⟨by omega, h1.1, h1.2.1, hr, ht⟩, if_pos ht]
        · rw [if_neg (fun hh => ht hh.2.2.2.2), if_neg ht]
      rw [e]
      exact this
    by_cases h1 : c.1 ≠ [] ∧ c.1.all isD = true ∧ (valL c.1 0 : Int) ≤ 9223372036854775807
    · have hn := numS_yes h1
      have hn2 : (numS c.1).2 = true := by rw [hn]
      by_cases hp : c.2.2 = true
      · by_cases h2 : c.2.1 ≠ [] ∧ c.2.1.all isD = true ∧ (valL c.2.1 0 : Int) ≤ 9223372036854775807
        · have hm := numS_yes h2
          have hm2 : (numS c.2.1).2 = true := by rw [hm]
          by_cases h4 : c.2.1.length ≤ 4
          · refine im (by rw [hn2, hm2, hp, decide_eq_false (by omega)]; decide) ?_
            have hv := val_lt c.2.1 0 h2.2.1
            refine go hn h1 h4 ?_ (fun _ => ⟨h2.1, h2.2.1, h4⟩) (by rw [hm])
            have h5 : c.2.1.length = 0 ∨ c.2.1.length = 1 ∨ c.2.1.length = 2 ∨ c.2.1.length = 3 ∨ c.2.1.length = 4 := by omega
            rcases h5 with h5 | h5 | h5 | h5 | h5 <;> rw [h5] at hv ⊢ <;> simp at hv ⊢ <;> omega
          · refine ip (by rw [hn2, hm2, hp, decide_eq_true (by omega)]; decide) ?_
            rw [bad (fun hh => h4 (hh.2.2.1 hp).2.2)]; rfl
        · have hm2 : (numS c.2.1).2 = false := by rw [numS_no h2]
          refine ip (by rw [hn2, hm2, hp]; simp) ?_
          rw [bad (fun hh => by
            have h6 := hh.2.2.1 hp
            have h7 := hh.2.2.2
            have h8 : valL c.2.1 0 ≤ totL c := by
              unfold totL
              exact Nat.le_trans (Nat.le_mul_of_pos_right _ (Nat.pow_pos (by decide))) (Nat.le_add_left _ _)
            exact h2 ⟨h6.1, h6.2.1, by omega⟩)]
          rfl
      · have hp2 : c.2.2 = false := by simpa using hp
        refine im (by rw [hn2, hp2]; simp) ?_
        have he := hc.2.2 hp2
        refine go hn h1 (by rw [he]; decide) (by rw [he]; decide) (fun h => absurd h hp) ?_
        rw [he]
        rfl
    · have hn2 : (numS c.1).2 = false := by rw [numS_no h1]
      refine ip (by rw [hn2]; simp) ?_
      rw [bad (fun hh => h1 ⟨hh.1, hh.2.1, by have := hh.2.2.2; omega⟩)]
      rfl
theorem parse_ev {l : List UInt8} (hl : l.length ≤ 1000000) : D 85 [.sc (.string (B l))] = some (pvG (parseL l)) := by
  rw [f85_eq 0]
  refine cb (read_ev hl) rfl ?_
  simp only [pvG_0, text_ev read_ok.1, bs, shs, if_true, ts, B_toList, bO, tb]
  simp only [pvG_1]
  unfold parseL
  by_cases h : (readL l).2 = true
  · by_cases h2 : texS (readL l).1 = l
    · rw [if_pos ⟨h, h2⟩]
      refine im (by rw [h, h2]; simp) rfl
    · rw [if_neg (fun hh => h2 hh.2)]
      refine ip (by simp [h2]) rfl
  · rw [if_neg (fun hh => h hh.1)]
    have hf : (readL l).2 = false := by simpa using h
    exact ip (by rw [hf]; rfl) rfl
end Go.Den.EB
/- A text, cut at its blanks: the plain part. -/
set_option linter.unusedVariables false
set_option linter.unusedSimpArgs false
namespace Go.Den
open Go Go.Proofs
/-- A text, cut at its blanks. -/
def spl : List UInt8 → List (List UInt8)
  | [] => [[]]
  | b :: l => if b = 32 then [] :: spl l else match spl l with
    | h :: t => (b :: h) :: t
    | [] => [[b]]
theorem spl_ne : ∀ l, ∃ h t, spl l = h :: t
  | [] => ⟨_, _, rfl⟩
  | b :: l => by
    unfold spl
    split
    · exact ⟨_, _, rfl⟩
    · obtain ⟨h, t, e⟩ := spl_ne l
      rw [e]; exact ⟨_, _, rfl⟩
theorem spl_cons {b : UInt8} (hb : b ≠ 32) {l h : List UInt8} {t : List (List UInt8)} (e : spl l = h :: t) : spl (b :: l) = (b :: h) :: t := by
  unfold spl; rw [if_neg hb, e]
theorem spl_blank (l : List UInt8) : spl (32 :: l) = [] :: spl l := by
  conv => lhs; unfold spl
  rfl
theorem splitK_eq : ∀ l : List UInt8, Lib.splitK [32] 0 (Lib.count l [32]) l = spl l
  | [] => by
    rw [Lib.count_miss (by rfl)]; rfl
  | b :: l => by
    by_cases hb : b = 32
    · subst hb
      have hix : Lib.index (32 :: l) [32] = ((0 : Nat) : Int) := by rw [Lib.index]; simp [List.isPrefixOf]
      rw [Lib.count_cons_eq, Nat.add_comm, Lib.splitK, if_neg (by rw [hix]; decide), hix, spl_blank, ← splitK_eq l]
      rfl
    · have hp : ([32] : List UInt8).isPrefixOf (b :: l) = false := by simp [List.isPrefixOf, Ne.symm hb]
      have hix : Lib.index (b :: l) [32] = if Lib.index l [32] == -1 then -1 else Lib.index l [32] + 1 := by rw [Lib.index, hp]; simp
      have ih := splitK_eq l
      rw [Lib.count_cons_ne b 32 l hb]
      by_cases hm : Lib.index l [32] = -1
      · rw [Lib.count_miss hm] at ih ⊢
        rw [spl_cons hb (h := l) (t := []) ih.symm]; rfl
      · have hge := Lib.index_ge l [32]
        obtain ⟨j, hj⟩ : ∃ j : Nat, Lib.index l [32] = j := ⟨(Lib.index l [32]).toNat, by omega⟩
        have hix' : Lib.index (b :: l) [32] = ((j + 1 : Nat) : Int) := by rw [hix, if_neg (by rw [hj]; simp <;> omega), hj]; omega
        rw [Lib.count_hit (by simp) hj, Nat.add_comm] at ih ⊢
        rw [Lib.splitK, if_neg (by rw [hj]; simp <;> omega), hj] at ih
        rw [Lib.splitK, if_neg (by rw [hix']; simp <;> omega), hix']
        rw [spl_cons hb ih.symm]
        rfl
theorem splitB_spl (l : List UInt8) : Lib.splitB (B [32]) 0 (Lib.countB (B l) (B [32])) (B l) = (spl l).map B := by
  have h := Lib.splitB_data (B [32]) 0 (Lib.countB (B l) (B [32])) (B l)
  have e : Lib.splitK (B [32]).data.toList 0 (Lib.countB (B l) (B [32])) (B l).data.toList = spl l := splitK_eq l
  rw [e] at h
  rw [← h, List.map_map]
  conv => lhs; rw [← List.map_id (Lib.splitB (B [32]) 0 (Lib.countB (B l) (B [32])) (B l))]
  apply List.map_congr_left
  intro s _
  rcases s with ⟨⟨s⟩⟩
  rfl
theorem spl_no : ∀ (l : List UInt8) (w : List UInt8), w ∈ spl l → (32 : UInt8) ∉ w
  | [], w, h => by
    have : w = [] := by simpa [spl] using h
    subst this; simp
  | b :: l, w, h => by
    by_cases hb : b = 32
    · subst hb
      rw [spl_blank] at h
      rcases List.mem_cons.1 h with rfl | h
      · simp
      · exact spl_no l w h
    · obtain ⟨h0, t0, e0⟩ := spl_ne l
      rw [spl_cons hb e0] at h
      have ih := spl_no l
      rw [e0] at ih
      rcases List.mem_cons.1 h with rfl | h
      · intro hm
        rcases List.mem_cons.1 hm with hm | hm
        · exact hb hm.symm
        · exact ih h0 List.mem_cons_self hm
      · exact ih w (List.mem_cons_of_mem _ h)
theorem spl_word : ∀ (w r : List UInt8), (32 : UInt8) ∉ w → spl (w ++ 32 :: r) = w :: spl r
  | [], r, _ => spl_blank r
  | b :: w, r, h => by
    have hb : b ≠ 32 := fun e => h (by rw [e]; exact List.mem_cons_self)
    rw [List.cons_append]
    exact spl_cons hb (spl_word w r fun hm => h (List.mem_cons_of_mem _ hm))
theorem spl_last : ∀ w : List UInt8, (32 : UInt8) ∉ w → spl w = [w]
  | [], _ => rfl
  | b :: w, h => by
    have hb : b ≠ 32 := fun e => h (by rw [e]; exact List.mem_cons_self)
    exact spl_cons hb (spl_last w fun hm => h (List.mem_cons_of_mem _ hm))
theorem spl_len : ∀ l : List UInt8, (spl l).flatten.length + (spl l).length = l.length + 1
  | [] => rfl
  | b :: l => by
    have ih := spl_len l
    by_cases hb : b = 32
    · subst hb
      rw [spl_blank, List.flatten_cons, List.nil_append, List.length_cons, List.length_cons]; omega
    · obtain ⟨h0, t0, e0⟩ := spl_ne l
      rw [spl_cons hb e0]
      rw [e0] at ih
      simp only [List.flatten_cons, List.length_append, List.length_cons] at ih ⊢
      omega
/-- The words of what is left, the first one begun. -/
def spA (a : List UInt8) (l : List UInt8) : List (List UInt8) := match spl l with
  | h :: t => (a ++ h) :: t
  | [] => [a]
theorem spA_nil (l : List UInt8) : spA [] l = spl l := by
  obtain ⟨h, t, e⟩ := spl_ne l
  unfold spA; rw [e]; rfl
theorem spA_end (a : List UInt8) : spA a [] = [a] := by
  unfold spA; rw [spl]; simp
theorem spA_blank (a l : List UInt8) : spA a (32 :: l) = a :: spl l := by
  unfold spA; rw [spl_blank]; simp
theorem spA_cons (a : List UInt8) {b : UInt8} (hb : b ≠ 32) (l : List UInt8) : spA a (b :: l) = spA (a ++ [b]) l := by
  obtain ⟨h, t, e⟩ := spl_ne l
  unfold spA; rw [spl_cons hb e, e]; simp
theorem spl_w {w r : List UInt8} (h : (32 : UInt8) ∉ w) : spl (w ++ ([32] ++ r)) = w :: spl r := spl_word w r h
theorem dd_no (n : Nat) : (32 : UInt8) ∉ Lib.decDigits n := by
  intro h
  have := List.all_eq_true.1 (dd_all n) _ h
  revert this; decide
end Go.Den
/- Counts as texts; texts cut at blanks: what the program's functions answer. -/
set_option linter.unusedVariables false
set_option linter.unusedSimpArgs false
set_option maxRecDepth 100000
namespace Go.Den.EB
open Go Go.Proofs
def okS (n : Int) : Bool := decide (0 ≤ n) && decide (n ≤ 1000000000)
def dS (n : Int) : List UInt8 := Lib.decDigits n.toNat
theorem okS_iff {n : Int} : okS n = true ↔ 0 ≤ n ∧ n ≤ 1000000000 := by unfold okS; simp
theorem dS_len {n : Int} (h : okS n = true) : (dS n).length ≤ 10 := by
  rw [okS_iff] at h
  exact dd_len 9 n.toNat (by omega)
theorem okS_bad {n : Int} (h : ¬ okS n = true) : (decide (n < 0) || decide (n > 1000000000)) = true := by
  rw [okS_iff] at h
  rw [Bool.or_eq_true, decide_eq_true_eq, decide_eq_true_eq]; omega
theorem okS_good {n : Int} (h : okS n = true) : ¬ (decide (n < 0) || decide (n > 1000000000)) = true := by
  rw [okS_iff] at h
  rw [Bool.or_eq_true, decide_eq_true_eq, decide_eq_true_eq]; omega
theorem text_okS {n : Int} (h : okS n = true) : D 64 [.sc (.int .i64 (IntKind.i64.wrap (n * 10000)))] = some (.sc (.string (B (dS n)))) := by
  rw [okS_iff] at h
  exact count_ev h.1 h.2
theorem digits_okS {n : Int} (h : okS n = true) : D 77 [.sc (.int .i64 n)] = some (.sc (.string (B (dS n)))) := by
  rw [okS_iff] at h
  exact digits_ev h.1 (by omega)
theorem tex_dS {n : Int} (h : okS n = true) : texS (n * 10000) = dS n := by
  rw [okS_iff] at h
  have e1 : (n * 10000).natAbs / 10000 = n.toNat := by omega
  have e2 : (n * 10000).natAbs % 10000 = 0 := by omega
  unfold texS texL
  rw [if_pos (by unfold May; omega), if_neg (by omega), List.nil_append, e1, e2]
  simp [fracS, dS]
theorem dS_no (n : Int) : (32 : UInt8) ∉ dS n := dd_no _
theorem dS_inj {a b : Int} (ha : okS a = true) (hb : okS b = true) (h : dS a = dS b) : a = b := by
  rw [okS_iff] at ha hb
  have h1 := dd_val a.toNat
  have h2 := dd_val b.toNat
  have : a.toNat = b.toNat := by rw [← h1, ← h2]; exact congrArg (fun z => valL z 0) h
  omega
/-- A count that is read. -/
theorem cnt_read (w : List UInt8) (hw : w.length ≤ 1000000) : ∃ g : Int × Bool, D 85 [.sc (.string (B w))] = some (pvG g) ∧ ((g.2 = true ∧ 0 ≤ g.1 ∧ g.1.tmod 10000 = 0 ∧ (0 ≤ g.1.tdiv 10000 ∧ g.1.tdiv 10000 ≤ 922337203685477) ∧ ∀ n, okS n = true → w = dS n → g.1.tdiv 10000 = n) ∨ ((g.2 = false ∨ g.1 < 0 ∨ g.1.tmod 10000 ≠ 0) ∧ ∀ n, okS n = true → w ≠ dS n)) := by
  refine ⟨parseL w, parse_ev hw, ?_⟩
  have key : ∀ n, okS n = true → w = dS n → parseL w = (n * 10000, true) := by
    intro n hn e
    have h := hn
    rw [okS_iff] at h
    rw [e, ← tex_dS hn, parse_texS (by unfold I64; omega), if_pos (by unfold May; omega)]
  by_cases h : (parseL w).2 = true ∧ 0 ≤ (parseL w).1 ∧ (parseL w).1.tmod 10000 = 0
  · left
    obtain ⟨h1, h2, h3⟩ := h
    have hm : (parseL w).1 ≤ 9223372036854775807 := by
      unfold parseL at h1 ⊢
      split at h1
      · rename_i hh
        rw [if_pos hh]
        exact (read_ok (l := w)).1.2
      · cases h1
    have e := Int.tdiv_eq_ediv_of_nonneg (b := 10000) h2
    refine ⟨h1, h2, h3, by rw [e]; omega, ?_⟩
    intro n hn hw
    rw [key n hn hw]
    show Int.tdiv (n * 10000) 10000 = n
    rw [okS_iff] at hn
    rw [Int.tdiv_eq_ediv_of_nonneg (by omega)]; omega
  · right
    refine ⟨?_, ?_⟩
    · by_cases h1 : (parseL w).2 = true
      · right
        by_cases h2 : 0 ≤ (parseL w).1
        · right; intro h3; exact h ⟨h1, h2, h3⟩
        · left; omega
      · left; simpa using h1
    · intro n hn e
      have k := key n hn e
      rw [k] at h
      rw [okS_iff] at hn
      refine h ⟨rfl, by show 0 ≤ n * 10000; omega, ?_⟩
      show Int.tmod (n * 10000) 10000 = 0
      rw [Int.tmod_eq_emod_of_nonneg (by omega)]; omega
def wp (ws : List (List UInt8)) : List PV := ws.map fun w => .sc (.string (B w))
theorem wp_len (ws : List (List UInt8)) : (wp ws).length = ws.length := by simp [wp]
theorem wp_get {ws : List (List UInt8)} {i : Nat} (h : i < ws.length) : (wp ws).getD i .top = .sc (.string (B ws[i])) := by simp [wp, h]
theorem wp_sh {ws : List (List UInt8)} {i : Nat} (h : i < ws.length) : hasSh .str ((wp ws).getD i .top) = true := by rw [wp_get h]; rfl
theorem split_ev (l : List UInt8) (hl : l.length ≤ 1000000) : D 123 [.sc (.string (B l)), .sc (.string (⟨#[32]⟩ : ByteArray))] = some (frozen 1 (wp (spl l))) := by
  have e : D 123 [.sc (.string (B l)), .sc (.string (⟨#[32]⟩ : ByteArray))] = xSplit [.sc (.string (B l)), .sc (.string (⟨#[32]⟩ : ByteArray))] := (denI_eq 0 _ _).trans (by kernel_rfl)
  rw [e]
  refine (if_pos ⟨by rw [B_size]; omega, by decide⟩).trans ?_
  show some (strs (Lib.splitB (B [32]) 0 (Lib.countB (B l) (B [32])) (B l))) = _
  rw [splitB_spl]
  unfold strs wp
  rw [List.map_map]
  rfl
theorem bt32w {l : List UInt8} {i : Nat} (h : i < l.length) : (bt (B l) (i : Int) == 32) = (l[i] == 32) := by
  rw [B_bt h, Bool.eq_iff_iff, beq_iff_eq, beq_iff_eq]
  constructor
  · intro e; exact UInt8.toNat_inj.1 (by show l[i].toNat = 32; omega)
  · intro e; rw [e]; rfl
theorem acc_step {l : List UInt8} {fr i : Nat} (hf : fr ≤ i) (hi : i < l.length) : (l.drop fr).take (i + 1 - fr) = (l.drop fr).take (i - fr) ++ [l[i]] := by
  rw [show i + 1 - fr = (i - fr) + 1 by omega, List.take_add_one, List.getElem?_drop, show fr + (i - fr) = i by omega, List.getElem?_eq_getElem hi]; rfl
theorem words_b (l : List UInt8) (hl : l.length ≤ 1000000) : ∀ (d fr i : Nat) (ws : List (List UInt8)), i + d = l.length → fr ≤ i → ws.length ≤ i → f126.l0b 0 (B l) (fr : Int) (i : Int) (wp ws) = some (frozen 1 (wp (ws ++ spA ((l.drop fr).take (i - fr)) (l.drop i)))) := by
  intro d
  induction d with
  | zero =>
    intro fr i ws h hf hw
    rw [f126.l0b_eq]
    have hi : i = l.length := by omega
    refine ip (by rw [decide_eq_true_eq, B_size]; omega) ?_
    have c : ((i : Int) == ((B l).size : Int)) = true := by rw [beq_iff_eq, B_size]; omega
    rw [c]
    simp only [if_true, bs, tb]
    have ex : (B l).extract (fr : Int).toNat (i : Int).toNat = B ((l.drop fr).take (i - fr)) := by rw [Int.toNat_natCast, Int.toNat_natCast, B_extract]
    refine ip (by omega) (ip (by rw [B_size]; omega) (ip (by omega) (ip (by omega) ?_)))
    refine ip (by rw [wp_len]; simp; omega) ?_
    rw [w64 (by omega) (by omega), f126.l0b_eq]
    refine im (by rw [decide_eq_true_eq, B_size]; omega) ?_
    rw [ex, List.drop_eq_nil_of_le (show l.length ≤ i by omega), spA_end]
    unfold wp
    rw [List.map_append]; rfl
  | succ d ih =>
    intro fr i ws h hf hw
    have hi : i < l.length := by omega
    rw [f126.l0b_eq]
    refine ip (by rw [decide_eq_true_eq, B_size]; omega) ?_
    have c : ((i : Int) == ((B l).size : Int)) = false := by rw [beq_eq_false_iff_ne, B_size]; omega
    have c1 : (0 : Int) ≤ (i : Int) := by omega
    have c2 : (i : Int) < ((B l).size : Int) := by rw [B_size]; omega
    rw [c]
    simp only [if_pos c1, if_pos c2, bs, tb, bt32w hi]
    have ex : (B l).extract (fr : Int).toNat (i : Int).toNat = B ((l.drop fr).take (i - fr)) := by rw [Int.toNat_natCast, Int.toNat_natCast, B_extract]
    rw [List.drop_eq_getElem_cons hi]
    by_cases hb : l[i] = 32
    · refine ip (by simp [hb]) (ip (by rw [B_size]; omega) (ip (by omega) (ip (by omega) ?_)))
      refine ip (by rw [wp_len]; simp; omega) ?_
      rw [w64 (by omega) (by omega), ex, hb, spA_blank]
      have := ih (i + 1) (i + 1) (ws ++ [(l.drop fr).take (i - fr)]) (by omega) (Nat.le_refl _) (by simp; omega)
      rw [Nat.sub_self, List.take_zero, spA_nil] at this
      rw [List.append_assoc] at this
      refine Eq.trans ?_ this
      unfold wp
      rw [List.map_append]; rfl
    · refine im (by simp [hb]) ?_
      rw [w64 (by omega) (by omega), spA_cons _ hb, ← acc_step hf hi]
      exact ih fr (i + 1) ws (by omega) (by omega) (by omega)
theorem words_a (l : List UInt8) (hl : l.length ≤ 1000000) : ∀ (d i : Nat), i + d = l.length → f126.l0a 0 (B l) 0 (i : Int) = some (frozen 1 (wp (spA (l.take i) (l.drop i)))) := by
  intro d
  induction d with
  | zero =>
    intro i h
    rw [f126.l0a_eq]
    have hi : i = l.length := by omega
    refine ip (by rw [decide_eq_true_eq, B_size]; omega) ?_
    have c : ((i : Int) == ((B l).size : Int)) = true := by rw [beq_iff_eq, B_size]; omega
    rw [c]
    simp only [if_true, bs, tb]
    have ex : (B l).extract (0 : Int).toNat (i : Int).toNat = B (l.take i) := by rw [Int.toNat_natCast, B_extract]; rfl
    refine ip (by omega) (ip (by rw [B_size]; omega) (ip (by omega) (ip (by omega) ?_)))
    refine ip (by simp) ?_
    rw [w64 (by omega) (by omega), f126.l0b_eq]
    refine im (by rw [decide_eq_true_eq, B_size]; omega) ?_
    rw [ex, List.drop_eq_nil_of_le (show l.length ≤ i by omega), spA_end]
    rfl
  | succ d ih =>
    intro i h
    have hi : i < l.length := by omega
    rw [f126.l0a_eq]
    refine ip (by rw [decide_eq_true_eq, B_size]; omega) ?_
    have c : ((i : Int) == ((B l).size : Int)) = false := by rw [beq_eq_false_iff_ne, B_size]; omega
    have c1 : (0 : Int) ≤ (i : Int) := by omega
    have c2 : (i : Int) < ((B l).size : Int) := by rw [B_size]; omega
    rw [c]
    simp only [if_pos c1, if_pos c2, bs, tb, bt32w hi]
    have ex : (B l).extract (0 : Int).toNat (i : Int).toNat = B (l.take i) := by rw [Int.toNat_natCast, B_extract]; rfl
    rw [List.drop_eq_getElem_cons hi]
    by_cases hb : l[i] = 32
    · refine ip (by simp [hb]) (ip (by rw [B_size]; omega) (ip (by decide) ?_))
      refine ip (by simp) ?_
      rw [w64 (by omega) (by omega), ex, hb, spA_blank]
      have := words_b l hl d (i + 1) (i + 1) [l.take i] (by omega) (Nat.le_refl _) (by simp)
      rw [Nat.sub_self, List.take_zero, spA_nil] at this
      exact this
    · refine im (by simp [hb]) ?_
      rw [w64 (by omega) (by omega), spA_cons _ hb]
      have e : l.take i ++ [l[i]] = l.take (i + 1) := by rw [List.take_add_one, List.getElem?_eq_getElem hi]; rfl
      rw [e]
      exact ih (i + 1) (by omega)
theorem words_ev (l : List UInt8) (hl : l.length ≤ 1000000) : D 126 [.sc (.string (B l))] = some (frozen 1 (wp (spl l))) := by
  rw [f126_eq 0]
  have := words_a l hl l.length 0 (by omega)
  rw [List.take_zero, List.drop_zero, spA_nil] at this
  exact this
end Go.Den.EB
/- Costs as texts, told and read: what the program's functions answer. -/
set_option linter.unusedVariables false
set_option linter.unusedSimpArgs false
set_option maxRecDepth 100000
namespace Go.Den.EB
open Go Go.Proofs
structure C5 where
  a : Int
  b : Int
  c : Int
  d : Int
  e : Int
def C5.pv (v : C5) : PV := .agg [.sc (.int .i64 v.a), .sc (.int .i64 v.b), .sc (.int .i64 v.c), .sc (.int .i64 v.d), .sc (.int .i64 v.e)]
theorem C5.fold (a b c d e : Int) : PV.agg [.sc (.int .i64 a), .sc (.int .i64 b), .sc (.int .i64 c), .sc (.int .i64 d), .sc (.int .i64 e)] = (C5.mk a b c d e).pv := rfl
theorem C5.sh (v : C5) : hasSh (.agg [(.int .i64), (.int .i64), (.int .i64), (.int .i64), (.int .i64)]) v.pv = true := rfl
theorem C5.c0 (v : C5) : (cel 0 v.pv.cells).toInt = v.a := rfl
theorem C5.c1 (v : C5) : (cel 1 v.pv.cells).toInt = v.b := rfl
theorem C5.c2 (v : C5) : (cel 2 v.pv.cells).toInt = v.c := rfl
theorem C5.c3 (v : C5) : (cel 3 v.pv.cells).toInt = v.d := rfl
theorem C5.c4 (v : C5) : (cel 4 v.pv.cells).toInt = v.e := rfl
theorem C5.rb (v : C5) : C5.mk v.a v.b v.c v.d v.e = v := rfl
def mq0 : List UInt8 := [101, 118, 97, 108, 115]
theorem mq0_len : mq0.length = 5 := rfl
def mq1 : List UInt8 := [114, 101, 97, 100, 115]
theorem mq1_len : mq1.length = 5 := rfl
def mq2 : List UInt8 := [99, 104, 97, 115, 101, 115]
theorem mq2_len : mq2.length = 6 := rfl
def mq3 : List UInt8 := [101, 100, 103, 101, 115]
theorem mq3_len : mq3.length = 5 := rfl
def mq4 : List UInt8 := [118, 105, 115, 105, 116, 115]
theorem mq4_len : mq4.length = 6 := rfl
def mWS : List ByteArray := [B mq0, B mq1, B mq2, B mq3, B mq4]
def mWF : Nat → PV := fun i => (mWS.map fun s => PV.sc (.string s)).getD i .top
theorem mst_0 (n0 n1 n2 n3 n4 : Int) : f88.l0a 0 5 mWF 5 n0 n1 n2 n3 n4 = if okS n0 = true then f88.l0b 0 5 mWF 5 [.sc (.string (B mq0)), .sc (.string (B (dS n0)))] n0 n1 n2 n3 n4 else some (.sc (.string (⟨#[]⟩ : ByteArray))) := by
  rw [f88.l0a_eq]
  refine ip (by decide) (ip (by decide) (ip rfl ?_))
  simp only [bO, tb]
  by_cases h : okS n0 = true
  · rw [if_pos h]
    refine im (okS_good h) (cb (text_okS h) rfl (ip (by simp; try omega) rfl))
  · rw [if_neg h]
    exact ip (okS_bad h) rfl
theorem mst_1 (out : List PV) (ho : out.length ≤ 100) (n0 n1 n2 n3 n4 : Int) : f88.l0b 0 5 mWF 5 out n0 n1 n2 n3 n4 = if okS n1 = true then f88.l0c 0 5 mWF 5 (out ++ [.sc (.string (B mq1)), .sc (.string (B (dS n1)))]) n0 n1 n2 n3 n4 else some (.sc (.string (⟨#[]⟩ : ByteArray))) := by
  rw [f88.l0b_eq]
  refine ip (by decide) (ip (by decide) (ip rfl ?_))
  simp only [bO, tb]
  by_cases h : okS n1 = true
  · rw [if_pos h]
    refine im (okS_good h) (cb (text_okS h) rfl (ip (by simp; try omega) rfl))
  · rw [if_neg h]
    exact ip (okS_bad h) rfl
theorem mst_2 (out : List PV) (ho : out.length ≤ 100) (n0 n1 n2 n3 n4 : Int) : f88.l0c 0 5 mWF 5 out n0 n1 n2 n3 n4 = if okS n2 = true then f88.l0d 0 5 mWF 5 (out ++ [.sc (.string (B mq2)), .sc (.string (B (dS n2)))]) n0 n1 n2 n3 n4 else some (.sc (.string (⟨#[]⟩ : ByteArray))) := by
  rw [f88.l0c_eq]
  refine ip (by decide) (ip (by decide) (ip rfl ?_))
  simp only [bO, tb]
  by_cases h : okS n2 = true
  · rw [if_pos h]
    refine im (okS_good h) (cb (text_okS h) rfl (ip (by simp; try omega) rfl))
  · rw [if_neg h]
    exact ip (okS_bad h) rfl
theorem mst_3 (out : List PV) (ho : out.length ≤ 100) (n0 n1 n2 n3 n4 : Int) : f88.l0d 0 5 mWF 5 out n0 n1 n2 n3 n4 = if okS n3 = true then f88.l0e 0 5 mWF 5 (out ++ [.sc (.string (B mq3)), .sc (.string (B (dS n3)))]) n0 n1 n2 n3 n4 else some (.sc (.string (⟨#[]⟩ : ByteArray))) := by
  rw [f88.l0d_eq]
  refine ip (by decide) (ip (by decide) (ip rfl ?_))
  simp only [bO, tb]
  by_cases h : okS n3 = true
  · rw [if_pos h]
    refine im (okS_good h) (cb (text_okS h) rfl (ip (by simp; try omega) rfl))
  · rw [if_neg h]
    exact ip (okS_bad h) rfl
theorem mst_4 (out : List PV) (ho : out.length ≤ 100) (n0 n1 n2 n3 n4 : Int) : f88.l0e 0 5 mWF 5 out n0 n1 n2 n3 n4 = if okS n4 = true then f88.l0f 0 5 mWF 5 (out ++ [.sc (.string (B mq4)), .sc (.string (B (dS n4)))]) n0 n1 n2 n3 n4 else some (.sc (.string (⟨#[]⟩ : ByteArray))) := by
  rw [f88.l0e_eq]
  refine ip (by decide) (ip (by decide) (ip rfl ?_))
  simp only [bO, tb]
  by_cases h : okS n4 = true
  · rw [if_pos h]
    refine im (okS_good h) (cb (text_okS h) rfl (ip (by simp; try omega) rfl))
  · rw [if_neg h]
    exact ip (okS_bad h) rfl
def all5 (n0 n1 n2 n3 n4 : Int) : Bool := okS n0 && okS n1 && okS n2 && okS n3 && okS n4
theorem all5_iff {n0 n1 n2 n3 n4 : Int} : all5 n0 n1 n2 n3 n4 = true ↔ okS n0 = true ∧ okS n1 = true ∧ okS n2 = true ∧ okS n3 = true ∧ okS n4 = true := by unfold all5; simp [and_assoc]
def mouts (n0 n1 n2 n3 n4 : Int) : List ByteArray := [B mq0, B (dS n0), B mq1, B (dS n1), B mq2, B (dS n2), B mq3, B (dS n3), B mq4, B (dS n4)]
def mtL (n0 n1 n2 n3 n4 : Int) : List UInt8 := mq0 ++ ([32] ++ (dS n0 ++ ([32] ++ (mq1 ++ ([32] ++ (dS n1 ++ ([32] ++ (mq2 ++ ([32] ++ (dS n2 ++ ([32] ++ (mq3 ++ ([32] ++ (dS n3 ++ ([32] ++ (mq4 ++ ([32] ++ dS n4)))))))))))))))))
theorem mtL_join (n0 n1 n2 n3 n4 : Int) : Lib.join ((mouts n0 n1 n2 n3 n4).map (·.data.toList)) [32] = mtL n0 n1 n2 n3 n4 := by
  unfold mouts mtL Lib.join
  simp only [List.map_cons, List.map_nil, B_data]
  simp [List.intercalate, List.intersperse]
theorem mtL_spl (n0 n1 n2 n3 n4 : Int) : spl (mtL n0 n1 n2 n3 n4) = [mq0, dS n0, mq1, dS n1, mq2, dS n2, mq3, dS n3, mq4, dS n4] := by
  unfold mtL
  have d : ∀ n, (32 : UInt8) ∉ dS n := dS_no
  rw [spl_w (show (32 : UInt8) ∉ mq0 by decide), spl_w (d n0), spl_w (show (32 : UInt8) ∉ mq1 by decide), spl_w (d n1), spl_w (show (32 : UInt8) ∉ mq2 by decide), spl_w (d n2), spl_w (show (32 : UInt8) ∉ mq3 by decide), spl_w (d n3), spl_w (show (32 : UInt8) ∉ mq4 by decide), spl_last _ (d n4)]
theorem mtL_aux {y0 y1 y2 y3 y4 : Nat} (l0 : y0 ≤ 10) (l1 : y1 ≤ 10) (l2 : y2 ≤ 10) (l3 : y3 ≤ 10) (l4 : y4 ≤ 10) : 5 + (1 + (y0 + (1 + (5 + (1 + (y1 + (1 + (6 + (1 + (y2 + (1 + (5 + (1 + (y3 + (1 + (6 + (1 + y4))))))))))))))))) ≤ 100 := by
  simp only [← Nat.add_assoc]
  omega
theorem mtL_len (n0 n1 n2 n3 n4 : Int) (h : all5 n0 n1 n2 n3 n4 = true) : (mtL n0 n1 n2 n3 n4).length ≤ 100 := by
  rw [all5_iff] at h
  obtain ⟨h0, h1, h2, h3, h4⟩ := h
  have l0 := dS_len h0
  have l1 := dS_len h1
  have l2 := dS_len h2
  have l3 := dS_len h3
  have l4 := dS_len h4
  unfold mtL
  generalize dS n0 = x0 at *
  generalize dS n1 = x1 at *
  generalize dS n2 = x2 at *
  generalize dS n3 = x3 at *
  generalize dS n4 = x4 at *
  clear h0 h1 h2 h3 h4
  simp only [List.length_append, List.length_cons, List.length_nil, mq0_len, mq1_len, mq2_len, mq3_len, mq4_len, Nat.zero_add]
  exact mtL_aux l0 l1 l2 l3 l4
theorem mjn (x t : PV) : D 79 [x, t] = xJoin [x, t] := (denI_eq 0 _ _).trans (by kernel_rfl)
theorem mjoin_ev (n0 n1 n2 n3 n4 : Int) (h : all5 n0 n1 n2 n3 n4 = true) : D 79 [frozen 1 ((mouts n0 n1 n2 n3 n4).map fun s => PV.sc (.string s)), .sc (.string (⟨#[32]⟩ : ByteArray))] = some (.sc (.string (B (mtL n0 n1 n2 n3 n4)))) := by
  rw [mjn]
  unfold xJoin frozen
  show (if _ ∧ _ ∧ _ then _ else _) = _
  have ej : joinArgs ((mouts n0 n1 n2 n3 n4).map fun s => PV.sc (.string s)).length (fun i => ((mouts n0 n1 n2 n3 n4).map fun s => PV.sc (.string s)).getD i .top) = mouts n0 n1 n2 n3 n4 := rfl
  have e32 : (⟨#[32]⟩ : ByteArray).data.toList = [32] := rfl
  rw [ej, e32, mtL_join]
  have := mtL_len n0 n1 n2 n3 n4 h
  exact if_pos ⟨by simp [mouts], rfl, by omega⟩
theorem mlast_ev (n0 n1 n2 n3 n4 : Int) (h : all5 n0 n1 n2 n3 n4 = true) : f88.l0f 0 5 mWF 5 ((mouts n0 n1 n2 n3 n4).map fun s => PV.sc (.string s)) n0 n1 n2 n3 n4 = some (.sc (.string (B (mtL n0 n1 n2 n3 n4)))) := by
  rw [f88.l0f_eq]
  refine im (by decide) (cb (mjoin_ev n0 n1 n2 n3 n4 h) rfl rfl)
def okC (c : C5) : Bool := all5 c.a c.b c.c c.d c.e
def mtC (c : C5) : List UInt8 := mtL c.a c.b c.c c.d c.e
def mtext (c : C5) : List UInt8 := if okC c = true then mtC c else []
theorem mtext_len (c : C5) : (mtext c).length ≤ 100 := by
  unfold mtext
  split
  · exact mtL_len _ _ _ _ _ (by assumption)
  · simp
theorem mfields_ev : D 120 [.sc (.string (⟨#[101, 118, 97, 108, 115, 32, 114, 101, 97, 100, 115, 32, 99, 104, 97, 115, 101, 115, 32, 101, 100, 103, 101, 115, 32, 118, 105, 115, 105, 116, 115]⟩ : ByteArray))] = some (strs mWS) := denI_of (k := 2) (by kernel_rfl)
theorem mcounts_ev (c : C5) : D 125 [c.pv] = some c.pv := f125_eq 0 c.a c.b c.c c.d c.e
theorem mcost_ev (c : C5) : D 124 [c.pv] = some c.pv := f124_eq 0 c.a c.b c.c c.d c.e
theorem meter_text (c : C5) : D 88 [c.pv] = some (.sc (.string (B (mtext c)))) := by
  obtain ⟨n0, n1, n2, n3, n4⟩ := c
  refine (f88_eq 0 n0 n1 n2 n3 n4).trans ?_
  have ec := mcounts_ev ⟨n0, n1, n2, n3, n4⟩
  simp only [C5.fold]
  refine cb ec rfl (cb mfields_ev rfl ?_)
  show f88.l0a 0 5 mWF 5 n0 n1 n2 n3 n4 = _
  rw [mst_0]
  unfold mtext okC all5
  by_cases g0 : ¬ okS n0 = true
  · rw [if_neg g0, if_neg (by simp [g0])]; rfl
  have h0 : okS n0 = true := Classical.not_not.1 g0
  rw [if_pos h0]
  rw [mst_1 _ (by simp)]
  by_cases g1 : ¬ okS n1 = true
  · rw [if_neg g1, if_neg (by simp [g1])]; rfl
  have h1 : okS n1 = true := Classical.not_not.1 g1
  rw [if_pos h1]
  rw [mst_2 _ (by simp)]
  by_cases g2 : ¬ okS n2 = true
  · rw [if_neg g2, if_neg (by simp [g2])]; rfl
  have h2 : okS n2 = true := Classical.not_not.1 g2
  rw [if_pos h2]
  rw [mst_3 _ (by simp)]
  by_cases g3 : ¬ okS n3 = true
  · rw [if_neg g3, if_neg (by simp [g3])]; rfl
  have h3 : okS n3 = true := Classical.not_not.1 g3
  rw [if_pos h3]
  rw [mst_4 _ (by simp)]
  by_cases g4 : ¬ okS n4 = true
  · rw [if_neg g4, if_neg (by simp [g4])]; rfl
  have h4 : okS n4 = true := Classical.not_not.1 g4
  rw [if_pos h4]
  have h : all5 n0 n1 n2 n3 n4 = true := all5_iff.2 ⟨h0, h1, h2, h3, h4⟩
  have := mlast_ev n0 n1 n2 n3 n4 h
  rw [if_pos (by simp [h0, h1, h2, h3, h4])]
  exact this
theorem rright_ev (n : Int) : D 86 [.sc (.int .i64 n)] = some (.sc (.bool (okS n))) := by
  rw [f86_eq 0]
  simp only [bA, bs, tb]
  have e : (decide (n ≥ 0) && decide (n ≤ 1000000000)) = okS n := rfl
  rw [e]
theorem rrights_ev (c : C5) : D 42 [c.pv] = some (.sc (.bool (okC c))) := by
  obtain ⟨n0, n1, n2, n3, n4⟩ := c
  refine (f42_eq 0 n0 n1 n2 n3 n4).trans ?_
  simp only [rright_ev, bs, shb, if_true, tb, bA]
  rfl
theorem rmeter_text (c : C5) : D 90 [c.pv] = some (.sc (.string (B (mtext c)))) := by
  obtain ⟨n0, n1, n2, n3, n4⟩ := c
  refine (f90_eq 0 n0 n1 n2 n3 n4).trans ?_
  simp only [C5.fold]
  refine cb (rrights_ev _) rfl ?_
  unfold mtext
  by_cases h : okC ⟨n0, n1, n2, n3, n4⟩ = true
  · rw [if_pos h]
    have h' := all5_iff.1 h
    dsimp only at h'
    obtain ⟨h0, h1, h2, h3, h4⟩ := h'
    have l0 := dS_len h0
    have l1 := dS_len h1
    have l2 := dS_len h2
    have l3 := dS_len h3
    have l4 := dS_len h4
    refine im (by rw [h]; decide) ?_
    refine cb (digits_okS h0) rfl ?_
    have k0 : (⟨#[101, 118, 97, 108, 115, 32]⟩ : ByteArray) = B (mq0 ++ [32]) := rfl
    have k1 : (⟨#[32, 114, 101, 97, 100, 115, 32]⟩ : ByteArray) = B ([32] ++ (mq1 ++ [32])) := rfl
    have k2 : (⟨#[32, 99, 104, 97, 115, 101, 115, 32]⟩ : ByteArray) = B ([32] ++ (mq2 ++ [32])) := rfl
    have k3 : (⟨#[32, 101, 100, 103, 101, 115, 32]⟩ : ByteArray) = B ([32] ++ (mq3 ++ [32])) := rfl
    have k4 : (⟨#[32, 118, 105, 115, 105, 116, 115, 32]⟩ : ByteArray) = B ([32] ++ (mq4 ++ [32])) := rfl
    rw [k0, k1, k2, k3, k4]
    simp only [ts, B_append, B_size]
    refine ip (by omega) (ip (by simp only [List.length_append, List.length_cons, List.length_nil, mq0_len]; omega) ?_)
    refine cb (digits_okS h1) rfl ?_
    simp only [ts, B_append, B_size]
    refine ip (by simp only [List.length_append, List.length_cons, List.length_nil, mq0_len, mq1_len]; omega) (ip (by simp only [List.length_append, List.length_cons, List.length_nil, mq0_len, mq1_len]; omega) ?_)
    refine cb (digits_okS h2) rfl ?_
    simp only [ts, B_append, B_size]
    refine ip (by simp only [List.length_append, List.length_cons, List.length_nil, mq0_len, mq1_len, mq2_len]; omega) (ip (by simp only [List.length_append, List.length_cons, List.length_nil, mq0_len, mq1_len, mq2_len]; omega) ?_)
    refine cb (digits_okS h3) rfl ?_
    simp only [ts, B_append, B_size]
    refine ip (by simp only [List.length_append, List.length_cons, List.length_nil, mq0_len, mq1_len, mq2_len, mq3_len]; omega) (ip (by simp only [List.length_append, List.length_cons, List.length_nil, mq0_len, mq1_len, mq2_len, mq3_len]; omega) ?_)
    refine cb (digits_okS h4) rfl ?_
    simp only [ts, B_append, B_size]
    refine ip (by simp only [List.length_append, List.length_cons, List.length_nil, mq0_len, mq1_len, mq2_len, mq3_len, mq4_len]; omega) ?_
    unfold mtC mtL
    simp only [List.append_assoc]
  · rw [if_neg h]
    refine ip (by simpa using h) rfl
/-- The reference's count of a word. -/
theorem rnum_l (w : List UInt8) (hw : w.length ≤ 1000000) : ∀ (d i n : Nat), i + d = w.length → n ≤ 10000000009 → ∃ v : Int, f127.l0a 0 (B w) (n : Int) (i : Int) = some (.sc (.int .i64 v)) ∧ ((w.drop i).all isD = true → valL (w.drop i) n ≤ 1000000000 → v = (valL (w.drop i) n : Int)) := by
  intro d
  induction d with
  | zero =>
    intro i n h hn
    refine ⟨n, ?_, ?_⟩
    · rw [f127.l0a_eq]
      exact im (by rw [decide_eq_true_eq, B_size]; omega) rfl
    · intro _ _
      rw [List.drop_eq_nil_of_le (by omega)]; rfl
  | succ d ih =>
    intro i n h hn
    have hi : i < w.length := by omega
    rw [f127.l0a_eq]
    have c1 : (0 : Int) ≤ (i : Int) := by omega
    have c2 : (i : Int) < ((B w).size : Int) := by rw [B_size]; omega
    rw [if_pos (show decide ((i : Int) < ((B w).size : Int)) = true from decide_eq_true c2)]
    simp only [if_pos c1, if_pos c2, bs, tb, bO, B_bt hi]
    rw [List.drop_eq_getElem_cons hi, List.all_cons, valL]
    by_cases hc : ((decide ((w[i].toNat : Int) < 48) || decide ((w[i].toNat : Int) > 57)) || decide ((n : Int) > 1000000000)) = true
    · refine ⟨-1, ip hc rfl, ?_⟩
      intro ha hv
      exfalso
      rw [Bool.and_eq_true] at ha
      have hd : 48 ≤ w[i].toNat ∧ w[i].toNat ≤ 57 := by have := ha.1; unfold isD at this; simpa using this
      have hge := valL_ge (w.drop (i + 1)) (n * 10 + (w[i].toNat - 48))
      simp only [Bool.or_eq_true, decide_eq_true_eq] at hc
      omega
    · have hc' := hc
      simp only [Bool.or_eq_true, decide_eq_true_eq] at hc
      obtain ⟨v, h1, h2⟩ := ih (i + 1) (n * 10 + (w[i].toNat - 48)) (by omega) (by omega)
      refine ⟨v, im hc' ?_, ?_⟩
      · rw [w64 (x := (n : Int) * 10) (by omega) (by omega), w64 (x := (w[i].toNat : Int)) (by omega) (by omega), w64 (x := (n : Int) * 10 + (w[i].toNat : Int)) (by omega) (by omega), w64 (x := (n : Int) * 10 + (w[i].toNat : Int) - 48) (by omega) (by omega), w64 (x := (i : Int) + 1) (by omega) (by omega), show (n : Int) * 10 + (w[i].toNat : Int) - 48 = ((n * 10 + (w[i].toNat - 48) : Nat) : Int) by omega]
        exact h1
      · intro ha hv
        rw [Bool.and_eq_true] at ha
        exact h2 ha.2 hv
theorem rnum36_ev (w : List UInt8) (hw : w.length ≤ 1000000) : ∃ v : Int, D 127 [.sc (.string (B w))] = some (.sc (.int .i64 v)) ∧ ∀ n, okS n = true → w = dS n → v = n := by
  obtain ⟨v, h1, h2⟩ := rnum_l w hw w.length 0 0 (by omega) (by omega)
  refine ⟨v, by rw [f127_eq 0]; exact h1, ?_⟩
  intro n hn e
  rw [okS_iff] at hn
  rw [List.drop_zero] at h2
  have ev : valL w 0 = n.toNat := by rw [e]; exact dd_val _
  have := h2 (by rw [e]; exact dd_all _) (by omega)
  omega
/-- What is read of a text is the cost whose text it is; of other texts none is. -/
def goodC (r : C5 × Bool) (l : List UInt8) : Prop := (r.2 = true → okC r.1 = true ∧ mtC r.1 = l) ∧ (r.2 = false → r.1 = ⟨0, 0, 0, 0, 0⟩ ∧ ∀ c, okC c = true → mtC c ≠ l)
theorem good_one {r s : C5 × Bool} {l : List UInt8} (h : goodC r l) (g : goodC s l) (inj : ∀ a b, okC a = true → okC b = true → mtC a = mtC b → a = b) : r = s := by
  obtain ⟨c, x⟩ := r
  obtain ⟨d, y⟩ := s
  cases x
  · obtain ⟨e1, h1⟩ := h.2 rfl
    cases y
    · obtain ⟨e2, _⟩ := g.2 rfl
      dsimp only at e1 e2
      rw [e1, e2]
    · obtain ⟨g1, g2⟩ := g.1 rfl
      exact absurd g2 (h1 d g1)
  · obtain ⟨h1, h2⟩ := h.1 rfl
    cases y
    · obtain ⟨_, g2⟩ := g.2 rfl
      exact absurd h2 (g2 c h1)
    · obtain ⟨g1, g2⟩ := g.1 rfl
      dsimp only at h1 h2 g1 g2
      rw [inj c d h1 g1 (h2.trans g2.symm)]
theorem mt_inj (a b : C5) (ha : okC a = true) (hb : okC b = true) (h : mtC a = mtC b) : a = b := by
  have e := congrArg spl h
  unfold mtC at e
  rw [mtL_spl, mtL_spl] at e
  simp only [List.cons.injEq, and_true, true_and] at e
  have ha' := all5_iff.1 ha
  have hb' := all5_iff.1 hb
  obtain ⟨e0, e1, e2, e3, e4⟩ := e
  cases a; cases b
  simp only [C5.mk.injEq]
  exact ⟨dS_inj ha'.1 hb'.1 e0, dS_inj ha'.2.1 hb'.2.1 e1, dS_inj ha'.2.2.1 hb'.2.2.1 e2, dS_inj ha'.2.2.2.1 hb'.2.2.2.1 e3, dS_inj ha'.2.2.2.2 hb'.2.2.2.2 e4⟩
theorem good_uniq {r s : C5 × Bool} {l : List UInt8} (h : goodC r l) (g : goodC s l) : r = s := good_one h g mt_inj
theorem good_told {r : C5 × Bool} {c : C5} (hc : okC c = true) (h : goodC r (mtC c)) : r = (c, true) := by
  refine good_uniq h ⟨fun _ => ⟨hc, rfl⟩, fun e => ?_⟩
  cases e
/-- The words of a text: ten, or not. -/
theorem ten_words {l : List UInt8} {c : C5} (h : mtC c = l) : spl l = [mq0, dS c.a, mq1, dS c.b, mq2, dS c.c, mq3, dS c.d, mq4, dS c.e] := by
  rw [← h]
  exact mtL_spl _ _ _ _ _
def pvP (r : C5 × Bool) : PV := .tup [r.1.pv, .sc (.bool r.2)]
def pvW (r : C5 × Bool) : PV := .agg [.sc (.int .i64 r.1.a), .sc (.int .i64 r.1.b), .sc (.int .i64 r.1.c), .sc (.int .i64 r.1.d), .sc (.int .i64 r.1.e), .sc (.bool r.2)]
theorem spl_word_len (l w : List UInt8) (h : w ∈ spl l) : w.length ≤ l.length := by
  have h1 := spl_len l
  have h2 : w.length ≤ (spl l).flatten.length := by
    obtain ⟨s, t, e⟩ := List.append_of_mem h
    rw [e]; simp; omega
  have h3 : 1 ≤ (spl l).length := by
    obtain ⟨a, b, e⟩ := spl_ne l
    rw [e]; simp
  omega
theorem rparse_ev (l : List UInt8) (hl : l.length ≤ 1000000) : ∃ r, D 89 [.sc (.string (B l))] = some (pvW r) ∧ goodC r l := by
  rw [f89_eq 0]
  by_cases h10 : (spl l).length = 10
  · obtain ⟨a0, w0, a1, w1, a2, w2, a3, w3, a4, w4, hs⟩ : ∃ a0 w0 a1 w1 a2 w2 a3 w3 a4 w4, spl l = [a0, w0, a1, w1, a2, w2, a3, w3, a4, w4] := by
      match hh : spl l, h10 with
      | [a0, w0, a1, w1, a2, w2, a3, w3, a4, w4], _ => exact ⟨_, _, _, _, _, _, _, _, _, _, rfl⟩
    have hw : ∀ w, w ∈ [a0, w0, a1, w1, a2, w2, a3, w3, a4, w4] → w.length ≤ 1000000 := fun w h => Nat.le_trans (spl_word_len l w (by rw [hs]; exact h)) hl
    obtain ⟨v0, e0, u0⟩ := rnum36_ev w0 (hw _ (by simp))
    obtain ⟨v1, e1, u1⟩ := rnum36_ev w1 (hw _ (by simp))
    obtain ⟨v2, e2, u2⟩ := rnum36_ev w2 (hw _ (by simp))
    obtain ⟨v3, e3, u3⟩ := rnum36_ev w3 (hw _ (by simp))
    obtain ⟨v4, e4, u4⟩ := rnum36_ev w4 (hw _ (by simp))
    have we := words_ev l hl
    rw [hs] at we
    have uni : ∀ c, okC c = true → mtC c = l → c = ⟨v0, v1, v2, v3, v4⟩ := by
      intro c hc e
      have t := ten_words e
      rw [hs] at t
      simp only [List.cons.injEq, and_true] at t
      obtain ⟨_, t0, _, t1, _, t2, _, t3, _, t4⟩ := t
      have k := all5_iff.1 hc
      cases c
      simp only [C5.mk.injEq]
      exact ⟨(u0 _ k.1 t0).symm, (u1 _ k.2.1 t1).symm, (u2 _ k.2.2.1 t2).symm, (u3 _ k.2.2.2.1 t3).symm, (u4 _ k.2.2.2.2 t4).symm⟩
    by_cases hx : okC ⟨v0, v1, v2, v3, v4⟩ = true ∧ mtC ⟨v0, v1, v2, v3, v4⟩ = l
    · refine ⟨(⟨v0, v1, v2, v3, v4⟩, true), ?_, fun _ => hx, fun h => by cases h⟩
      refine cb we rfl (im (show ¬ ((((10 : Nat) : Int) != 10) = true) by decide) (ip (show (1 : Int) < ((10 : Nat) : Int) by decide) (ip rfl (ip (show (3 : Int) < ((10 : Nat) : Int) by decide) (ip rfl (ip (show (5 : Int) < ((10 : Nat) : Int) by decide) (ip rfl (ip (show (7 : Int) < ((10 : Nat) : Int) by decide) (ip rfl (ip (show (9 : Int) < ((10 : Nat) : Int) by decide) (ip rfl ?_)))))))))))
      refine cb e0 rfl (cb e1 rfl (cb e2 rfl (cb e3 rfl (cb e4 rfl ?_))))
      refine cb (rrights_ev ⟨v0, v1, v2, v3, v4⟩) rfl ?_
      rw [hx.1]
      have t := rmeter_text ⟨v0, v1, v2, v3, v4⟩
      have tt : mtext ⟨v0, v1, v2, v3, v4⟩ = l := by unfold mtext; rw [if_pos hx.1]; exact hx.2
      rw [tt] at t
      simp only [bs, tb, ti, C5.fold, t, shs, if_true, ts, beq_self_eq_true, Bool.not_true, Bool.false_eq_true, if_false]
      rfl
    · refine ⟨(⟨0, 0, 0, 0, 0⟩, false), ?_, (fun h => by cases h), fun _ => ⟨rfl, fun c hc e => hx (by have := uni c hc e; subst this; exact ⟨hc, e⟩)⟩⟩
      refine cb we rfl (im (show ¬ ((((10 : Nat) : Int) != 10) = true) by decide) (ip (show (1 : Int) < ((10 : Nat) : Int) by decide) (ip rfl (ip (show (3 : Int) < ((10 : Nat) : Int) by decide) (ip rfl (ip (show (5 : Int) < ((10 : Nat) : Int) by decide) (ip rfl (ip (show (7 : Int) < ((10 : Nat) : Int) by decide) (ip rfl (ip (show (9 : Int) < ((10 : Nat) : Int) by decide) (ip rfl ?_)))))))))))
      refine cb e0 rfl (cb e1 rfl (cb e2 rfl (cb e3 rfl (cb e4 rfl ?_))))
      refine cb (rrights_ev ⟨v0, v1, v2, v3, v4⟩) rfl ?_
      have t := rmeter_text ⟨v0, v1, v2, v3, v4⟩
      by_cases ho : okC ⟨v0, v1, v2, v3, v4⟩ = true
      · rw [ho]
        have tt : mtext ⟨v0, v1, v2, v3, v4⟩ ≠ l := by unfold mtext; rw [if_pos ho]; exact fun h => hx ⟨ho, h⟩
        have tb' : ((B (mtext ⟨v0, v1, v2, v3, v4⟩)).toList == (B l).toList) = false := by rw [B_toList, B_toList]; exact beq_eq_false_iff_ne.2 tt
        simp only [bs, tb, ti, C5.fold, t, shs, if_true, ts, tb', Bool.not_true, Bool.not_false, Bool.false_eq_true, if_false]
        rfl
      · have ho' : okC ⟨v0, v1, v2, v3, v4⟩ = false := by simpa using ho
        rw [ho']
        simp only [bs, tb, Bool.not_false, if_true]
        rfl
  · refine ⟨(⟨0, 0, 0, 0, 0⟩, false), ?_, (fun h => by cases h), fun _ => ⟨rfl, fun c hc e => h10 (by rw [ten_words e]; rfl)⟩⟩
    refine cb (words_ev l hl) rfl (ip ?_ rfl)
    show (((wp (spl l)).length : Int) != 10) = true
    rw [wp_len, bne_iff_ne]; omega
theorem mstep {g : Int × Bool} {P : Prop} (h : (g.2 = true ∧ 0 ≤ g.1 ∧ g.1.tmod 10000 = 0 ∧ (0 ≤ g.1.tdiv 10000 ∧ g.1.tdiv 10000 ≤ 922337203685477) ∧ P) ) : ((!g.2 || decide (g.1 < 0)) || (g.1.tmod 10000 != 0)) = false := by
  obtain ⟨h1, h2, h3, _⟩ := h
  rw [h1, h3, decide_eq_false (by omega)]; rfl
theorem mfail {g : Int × Bool} (h : g.2 = false ∨ g.1 < 0 ∨ g.1.tmod 10000 ≠ 0) : ((!g.2 || decide (g.1 < 0)) || (g.1.tmod 10000 != 0)) = true := by
  rcases h with h | h | h
  · rw [h]; rfl
  · rw [decide_eq_true h]; simp
  · rw [(bne_iff_ne).2 h]; simp
theorem mp_5 (l : List UInt8) (hl : l.length ≤ 1000000) (a0 w0 a1 w1 a2 w2 a3 w3 a4 w4 : List UInt8) (hs : spl l = [a0, w0, a1, w1, a2, w2, a3, w3, a4, w4]) (m0 m1 m2 m3 m4 : Int) (k0 : ∀ n, okS n = true → w0 = dS n → m0 = n) (k1 : ∀ n, okS n = true → w1 = dS n → m1 = n) (k2 : ∀ n, okS n = true → w2 = dS n → m2 = n) (k3 : ∀ n, okS n = true → w3 = dS n → m3 = n) (k4 : ∀ n, okS n = true → w4 = dS n → m4 = n) : ∃ r, f87.l0f 0 (B l) 10 (fun i => (wp [a0, w0, a1, w1, a2, w2, a3, w3, a4, w4]).getD i .top) m0 m1 m2 m3 m4 = some (pvP r) ∧ goodC r l := by
  rw [f87.l0f_eq]
  have uni : ∀ c, okC c = true → mtC c = l → c = ⟨m0, m1, m2, m3, m4⟩ := by
    intro c hc e
    have t := ten_words e
    rw [hs] at t
    simp only [List.cons.injEq, and_true] at t
    obtain ⟨_, t0, _, t1, _, t2, _, t3, _, t4⟩ := t
    have k := all5_iff.1 hc
    cases c
    simp only [C5.mk.injEq]
    exact ⟨(k0 _ k.1 t0).symm, (k1 _ k.2.1 t1).symm, (k2 _ k.2.2.1 t2).symm, (k3 _ k.2.2.2.1 t3).symm, (k4 _ k.2.2.2.2 t4).symm⟩
  have t := meter_text ⟨m0, m1, m2, m3, m4⟩
  have ce := mcost_ev ⟨m0, m1, m2, m3, m4⟩
  by_cases hx : mtext ⟨m0, m1, m2, m3, m4⟩ = l
  · have ho : okC ⟨m0, m1, m2, m3, m4⟩ = true := by
      cases h : okC ⟨m0, m1, m2, m3, m4⟩
      · exfalso
        unfold mtext at hx
        rw [h] at hx
        have hx2 : [] = l := hx
        rw [← hx2] at hs
        simp [spl] at hs
      · rfl
    refine ⟨(⟨m0, m1, m2, m3, m4⟩, true), ?_, fun _ => ⟨ho, by unfold mtext at hx; rw [if_pos ho] at hx; exact hx⟩, fun h => by cases h⟩
    refine cb ce rfl (cb t rfl ?_)
    rw [hx]
    refine im (by simp only [ts, beq_self_eq_true]; decide) rfl
  · refine ⟨(⟨0, 0, 0, 0, 0⟩, false), ?_, (fun h => by cases h), fun _ => ⟨rfl, fun c hc e => ?_⟩⟩
    · refine cb ce rfl (cb t rfl ?_)
      have tb' : ((B (mtext ⟨m0, m1, m2, m3, m4⟩)).toList == (B l).toList) = false := by rw [B_toList, B_toList]; exact beq_eq_false_iff_ne.2 hx
      refine ip (by simp only [ts, tb']; decide) rfl
    · have := uni c hc e
      subst this
      exact hx (by unfold mtext; rw [if_pos hc]; exact e)
theorem mp_4 (l : List UInt8) (hl : l.length ≤ 1000000) (a0 w0 a1 w1 a2 w2 a3 w3 a4 w4 : List UInt8) (hs : spl l = [a0, w0, a1, w1, a2, w2, a3, w3, a4, w4]) (m0 m1 m2 m3 : Int) (k0 : ∀ n, okS n = true → w0 = dS n → m0 = n) (k1 : ∀ n, okS n = true → w1 = dS n → m1 = n) (k2 : ∀ n, okS n = true → w2 = dS n → m2 = n) (k3 : ∀ n, okS n = true → w3 = dS n → m3 = n) : ∃ r, f87.l0e 0 (B l) 10 (fun i => (wp [a0, w0, a1, w1, a2, w2, a3, w3, a4, w4]).getD i .top) m0 m1 m2 m3 = some (pvP r) ∧ goodC r l := by
  rw [f87.l0e_eq]
  have hw : w4.length ≤ 1000000 := Nat.le_trans (spl_word_len l w4 (by rw [hs]; simp)) hl
  obtain ⟨g, e, u⟩ := cnt_read w4 hw
  have no : (∀ n, okS n = true → w4 ≠ dS n) → goodC (⟨0, 0, 0, 0, 0⟩, false) l := by
    intro hn
    refine ⟨(fun h => by cases h), fun _ => ⟨rfl, fun c hc e => ?_⟩⟩
    have t := ten_words e
    rw [hs] at t
    simp only [List.cons.injEq, and_true] at t
    obtain ⟨_, t0, _, t1, _, t2, _, t3, _, t4⟩ := t
    have k := all5_iff.1 hc
    exact hn _ k.2.2.2.2 t4
  rcases u with h | ⟨h1, h2⟩
  · obtain ⟨r, e2, gr⟩ := mp_5 l hl a0 w0 a1 w1 a2 w2 a3 w3 a4 w4 hs m0 m1 m2 m3 (IntKind.i64.wrap (g.1.tdiv 10000)) k0 k1 k2 k3 (by rw [w64 (by omega) (by omega)]; exact h.2.2.2.2)
    refine ⟨r, ?_, gr⟩
    refine ip (by decide) (ip rfl (cb e rfl ?_))
    rw [bO, bO]
    refine im (show ¬ (((!g.2 || decide (g.1 < 0)) || (g.1.tmod 10000 != 0)) = true) by rw [mstep h]; decide) ?_
    exact e2
  · refine ⟨_, ?_, no h2⟩
    refine ip (by decide) (ip rfl (cb e rfl ?_))
    rw [bO, bO]
    exact ip (show ((!g.2 || decide (g.1 < 0)) || (g.1.tmod 10000 != 0)) = true from mfail h1) rfl
theorem mp_3 (l : List UInt8) (hl : l.length ≤ 1000000) (a0 w0 a1 w1 a2 w2 a3 w3 a4 w4 : List UInt8) (hs : spl l = [a0, w0, a1, w1, a2, w2, a3, w3, a4, w4]) (m0 m1 m2 : Int) (k0 : ∀ n, okS n = true → w0 = dS n → m0 = n) (k1 : ∀ n, okS n = true → w1 = dS n → m1 = n) (k2 : ∀ n, okS n = true → w2 = dS n → m2 = n) : ∃ r, f87.l0d 0 (B l) 10 (fun i => (wp [a0, w0, a1, w1, a2, w2, a3, w3, a4, w4]).getD i .top) m0 m1 m2 = some (pvP r) ∧ goodC r l := by
  rw [f87.l0d_eq]
  have hw : w3.length ≤ 1000000 := Nat.le_trans (spl_word_len l w3 (by rw [hs]; simp)) hl
  obtain ⟨g, e, u⟩ := cnt_read w3 hw
  have no : (∀ n, okS n = true → w3 ≠ dS n) → goodC (⟨0, 0, 0, 0, 0⟩, false) l := by
    intro hn
    refine ⟨(fun h => by cases h), fun _ => ⟨rfl, fun c hc e => ?_⟩⟩
    have t := ten_words e
    rw [hs] at t
    simp only [List.cons.injEq, and_true] at t
    obtain ⟨_, t0, _, t1, _, t2, _, t3, _, t4⟩ := t
    have k := all5_iff.1 hc
    exact hn _ k.2.2.2.1 t3
  rcases u with h | ⟨h1, h2⟩
  · obtain ⟨r, e2, gr⟩ := mp_4 l hl a0 w0 a1 w1 a2 w2 a3 w3 a4 w4 hs m0 m1 m2 (IntKind.i64.wrap (g.1.tdiv 10000)) k0 k1 k2 (by rw [w64 (by omega) (by omega)]; exact h.2.2.2.2)
    refine ⟨r, ?_, gr⟩
    refine ip (by decide) (ip rfl (cb e rfl ?_))
    rw [bO, bO]
    refine im (show ¬ (((!g.2 || decide (g.1 < 0)) || (g.1.tmod 10000 != 0)) = true) by rw [mstep h]; decide) ?_
    exact e2
  · refine ⟨_, ?_, no h2⟩
    refine ip (by decide) (ip rfl (cb e rfl ?_))
    rw [bO, bO]
    exact ip (show ((!g.2 || decide (g.1 < 0)) || (g.1.tmod 10000 != 0)) = true from mfail h1) rfl
theorem mp_2 (l : List UInt8) (hl : l.length ≤ 1000000) (a0 w0 a1 w1 a2 w2 a3 w3 a4 w4 : List UInt8) (hs : spl l = [a0, w0, a1, w1, a2, w2, a3, w3, a4, w4]) (m0 m1 : Int) (k0 : ∀ n, okS n = true → w0 = dS n → m0 = n) (k1 : ∀ n, okS n = true → w1 = dS n → m1 = n) : ∃ r, f87.l0c 0 (B l) 10 (fun i => (wp [a0, w0, a1, w1, a2, w2, a3, w3, a4, w4]).getD i .top) m0 m1 = some (pvP r) ∧ goodC r l := by
  rw [f87.l0c_eq]
  have hw : w2.length ≤ 1000000 := Nat.le_trans (spl_word_len l w2 (by rw [hs]; simp)) hl
  obtain ⟨g, e, u⟩ := cnt_read w2 hw
  have no : (∀ n, okS n = true → w2 ≠ dS n) → goodC (⟨0, 0, 0, 0, 0⟩, false) l := by
    intro hn
    refine ⟨(fun h => by cases h), fun _ => ⟨rfl, fun c hc e => ?_⟩⟩
    have t := ten_words e
    rw [hs] at t
    simp only [List.cons.injEq, and_true] at t
    obtain ⟨_, t0, _, t1, _, t2, _, t3, _, t4⟩ := t
    have k := all5_iff.1 hc
    exact hn _ k.2.2.1 t2
  rcases u with h | ⟨h1, h2⟩
  · obtain ⟨r, e2, gr⟩ := mp_3 l hl a0 w0 a1 w1 a2 w2 a3 w3 a4 w4 hs m0 m1 (IntKind.i64.wrap (g.1.tdiv 10000)) k0 k1 (by rw [w64 (by omega) (by omega)]; exact h.2.2.2.2)
    refine ⟨r, ?_, gr⟩
    refine ip (by decide) (ip rfl (cb e rfl ?_))
    rw [bO, bO]
    refine im (show ¬ (((!g.2 || decide (g.1 < 0)) || (g.1.tmod 10000 != 0)) = true) by rw [mstep h]; decide) ?_
    exact e2
  · refine ⟨_, ?_, no h2⟩
    refine ip (by decide) (ip rfl (cb e rfl ?_))
    rw [bO, bO]
    exact ip (show ((!g.2 || decide (g.1 < 0)) || (g.1.tmod 10000 != 0)) = true from mfail h1) rfl
theorem mp_1 (l : List UInt8) (hl : l.length ≤ 1000000) (a0 w0 a1 w1 a2 w2 a3 w3 a4 w4 : List UInt8) (hs : spl l = [a0, w0, a1, w1, a2, w2, a3, w3, a4, w4]) (m0 : Int) (k0 : ∀ n, okS n = true → w0 = dS n → m0 = n) : ∃ r, f87.l0b 0 (B l) 10 (fun i => (wp [a0, w0, a1, w1, a2, w2, a3, w3, a4, w4]).getD i .top) m0 = some (pvP r) ∧ goodC r l := by
  rw [f87.l0b_eq]
  have hw : w1.length ≤ 1000000 := Nat.le_trans (spl_word_len l w1 (by rw [hs]; simp)) hl
  obtain ⟨g, e, u⟩ := cnt_read w1 hw
  have no : (∀ n, okS n = true → w1 ≠ dS n) → goodC (⟨0, 0, 0, 0, 0⟩, false) l := by
    intro hn
    refine ⟨(fun h => by cases h), fun _ => ⟨rfl, fun c hc e => ?_⟩⟩
    have t := ten_words e
    rw [hs] at t
    simp only [List.cons.injEq, and_true] at t
    obtain ⟨_, t0, _, t1, _, t2, _, t3, _, t4⟩ := t
    have k := all5_iff.1 hc
    exact hn _ k.2.1 t1
  rcases u with h | ⟨h1, h2⟩
  · obtain ⟨r, e2, gr⟩ := mp_2 l hl a0 w0 a1 w1 a2 w2 a3 w3 a4 w4 hs m0 (IntKind.i64.wrap (g.1.tdiv 10000)) k0 (by rw [w64 (by omega) (by omega)]; exact h.2.2.2.2)
    refine ⟨r, ?_, gr⟩
    refine ip (by decide) (ip rfl (cb e rfl ?_))
    rw [bO, bO]
    refine im (show ¬ (((!g.2 || decide (g.1 < 0)) || (g.1.tmod 10000 != 0)) = true) by rw [mstep h]; decide) ?_
    exact e2
  · refine ⟨_, ?_, no h2⟩
    refine ip (by decide) (ip rfl (cb e rfl ?_))
    rw [bO, bO]
    exact ip (show ((!g.2 || decide (g.1 < 0)) || (g.1.tmod 10000 != 0)) = true from mfail h1) rfl
theorem mp_0 (l : List UInt8) (hl : l.length ≤ 1000000) (a0 w0 a1 w1 a2 w2 a3 w3 a4 w4 : List UInt8) (hs : spl l = [a0, w0, a1, w1, a2, w2, a3, w3, a4, w4])   : ∃ r, f87.l0a 0 (B l) 10 (fun i => (wp [a0, w0, a1, w1, a2, w2, a3, w3, a4, w4]).getD i .top)  = some (pvP r) ∧ goodC r l := by
  rw [f87.l0a_eq]
  have hw : w0.length ≤ 1000000 := Nat.le_trans (spl_word_len l w0 (by rw [hs]; simp)) hl
  obtain ⟨g, e, u⟩ := cnt_read w0 hw
  have no : (∀ n, okS n = true → w0 ≠ dS n) → goodC (⟨0, 0, 0, 0, 0⟩, false) l := by
    intro hn
    refine ⟨(fun h => by cases h), fun _ => ⟨rfl, fun c hc e => ?_⟩⟩
    have t := ten_words e
    rw [hs] at t
    simp only [List.cons.injEq, and_true] at t
    obtain ⟨_, t0, _, t1, _, t2, _, t3, _, t4⟩ := t
    have k := all5_iff.1 hc
    exact hn _ k.1 t0
  rcases u with h | ⟨h1, h2⟩
  · obtain ⟨r, e2, gr⟩ := mp_1 l hl a0 w0 a1 w1 a2 w2 a3 w3 a4 w4 hs  (IntKind.i64.wrap (g.1.tdiv 10000))  (by rw [w64 (by omega) (by omega)]; exact h.2.2.2.2)
    refine ⟨r, ?_, gr⟩
    refine ip (by decide) (ip rfl (cb e rfl ?_))
    rw [bO, bO]
    refine im (show ¬ (((!g.2 || decide (g.1 < 0)) || (g.1.tmod 10000 != 0)) = true) by rw [mstep h]; decide) ?_
    exact e2
  · refine ⟨_, ?_, no h2⟩
    refine ip (by decide) (ip rfl (cb e rfl ?_))
    rw [bO, bO]
    exact ip (show ((!g.2 || decide (g.1 < 0)) || (g.1.tmod 10000 != 0)) = true from mfail h1) rfl
theorem mparse_ev (l : List UInt8) (hl : l.length ≤ 1000000) : ∃ r, D 87 [.sc (.string (B l))] = some (pvP r) ∧ goodC r l := by
  rw [f87_eq 0]
  have we := split_ev l hl
  by_cases h10 : (spl l).length = 10
  · obtain ⟨a0, w0, a1, w1, a2, w2, a3, w3, a4, w4, hs⟩ : ∃ a0 w0 a1 w1 a2 w2 a3 w3 a4 w4, spl l = [a0, w0, a1, w1, a2, w2, a3, w3, a4, w4] := by
      match hh : spl l, h10 with
      | [a0, w0, a1, w1, a2, w2, a3, w3, a4, w4], _ => exact ⟨_, _, _, _, _, _, _, _, _, _, rfl⟩
    obtain ⟨r, e, g⟩ := mp_0 l hl a0 w0 a1 w1 a2 w2 a3 w3 a4 w4 hs
    refine ⟨r, ?_, g⟩
    rw [hs] at we
    refine cb we rfl (im (show ¬ ((((10 : Nat) : Int) != 10) = true) by decide) ?_)
    exact e
  · refine ⟨(⟨0, 0, 0, 0, 0⟩, false), ?_, (fun h => by cases h), fun _ => ⟨rfl, fun c hc e => h10 (by rw [ten_words e]; rfl)⟩⟩
    refine cb we rfl (ip ?_ rfl)
    show (((wp (spl l)).length : Int) != 10) = true
    rw [wp_len, bne_iff_ne]; omega
end Go.Den.EB
/- What the cells of the laws' arguments are. -/
set_option linter.unusedVariables false
set_option maxRecDepth 100000
namespace Go.Den.EB
open Go Go.Proofs
-- ReplyBack: function 6, types [3, 56, 9]
theorem on3 (x : PV) : ofCells Tryz.prog 3 [x] = x := by unfold ofCells; rw [Tryz.underlying3]; rfl
theorem ce3 : Tryz.prog.cellsOf 3 = 1 := by kernel_rfl
theorem by3 : Tryz.prog.bytesOf 3 = 8 := by kernel_rfl
theorem of3 {xs : List PV} (h : Ty Tryz.prog 3 xs) : ∃ (a : Int), xs = [.sc (.int .i64 a)] ∧ (-9223372036854775808 ≤ a ∧ a ≤ 9223372036854775807) := by
  obtain ⟨a, e, w⟩ := ty_i64 h Tryz.underlying3
  exact ⟨a, e, w⟩
theorem ag56 (a : List PV) : ofCells Tryz.prog 56 a = .agg a := by unfold ofCells; rw [Tryz.underlying56]; rfl
theorem ce56 : Tryz.prog.cellsOf 56 = 5 := by kernel_rfl
theorem by56 : Tryz.prog.bytesOf 56 = 40 := by kernel_rfl
theorem of56 {xs : List PV} (h : Ty Tryz.prog 56 xs) : ∃ (a_0 : Int) (a_1 : Int) (a_2 : Int) (a_3 : Int) (a_4 : Int), xs = [.sc (.int .i64 a_0), .sc (.int .i64 a_1), .sc (.int .i64 a_2), .sc (.int .i64 a_3), .sc (.int .i64 a_4)] ∧ (-9223372036854775808 ≤ a_0 ∧ a_0 ≤ 9223372036854775807) ∧ (-9223372036854775808 ≤ a_1 ∧ a_1 ≤ 9223372036854775807) ∧ (-9223372036854775808 ≤ a_2 ∧ a_2 ≤ 9223372036854775807) ∧ (-9223372036854775808 ≤ a_3 ∧ a_3 ≤ 9223372036854775807) ∧ (-9223372036854775808 ≤ a_4 ∧ a_4 ≤ 9223372036854775807) := by
  obtain ⟨hl, hx⟩ := ty_struct h Tryz.underlying56
  rw [ce56] at hl
  obtain ⟨x0, x1, x2, x3, x4, rfl⟩ : ∃ x0 x1 x2 x3 x4, xs = [x0, x1, x2, x3, x4] := by
    match xs, hl with
    | [x0, x1, x2, x3, x4], _ => exact ⟨x0, x1, x2, x3, x4, rfl⟩
  have h0 : Ty Tryz.prog 3 [x0] := by
    have h := hx _ (List.mem_cons_self)
    first | (simp only [ce3] at h; exact h) | exact h
  obtain ⟨a_0, e0, w0_0⟩ := of3 h0
  simp only [List.cons.injEq, and_true] at e0
  subst e0
  have h1 : Ty Tryz.prog 3 [x1] := by
    have h := hx _ (List.mem_cons_of_mem _ (List.mem_cons_self))
    first | (simp only [ce3] at h; exact h) | exact h
  obtain ⟨a_1, e1, w1_0⟩ := of3 h1
  simp only [List.cons.injEq, and_true] at e1
  subst e1
  have h2 : Ty Tryz.prog 3 [x2] := by
    have h := hx _ (List.mem_cons_of_mem _ (List.mem_cons_of_mem _ (List.mem_cons_self)))
    first | (simp only [ce3] at h; exact h) | exact h
  obtain ⟨a_2, e2, w2_0⟩ := of3 h2
  simp only [List.cons.injEq, and_true] at e2
  subst e2
  have h3 : Ty Tryz.prog 3 [x3] := by
    have h := hx _ (List.mem_cons_of_mem _ (List.mem_cons_of_mem _ (List.mem_cons_of_mem _ (List.mem_cons_self))))
    first | (simp only [ce3] at h; exact h) | exact h
  obtain ⟨a_3, e3, w3_0⟩ := of3 h3
  simp only [List.cons.injEq, and_true] at e3
  subst e3
  have h4 : Ty Tryz.prog 3 [x4] := by
    have h := hx _ (List.mem_cons_of_mem _ (List.mem_cons_of_mem _ (List.mem_cons_of_mem _ (List.mem_cons_of_mem _ (List.mem_cons_self)))))
    first | (simp only [ce3] at h; exact h) | exact h
  obtain ⟨a_4, e4, w4_0⟩ := of3 h4
  simp only [List.cons.injEq, and_true] at e4
  subst e4
  exact ⟨a_0, a_1, a_2, a_3, a_4, rfl, w0_0, w1_0, w2_0, w3_0, w4_0⟩
theorem on9 (x : PV) : ofCells Tryz.prog 9 [x] = x := by unfold ofCells; rw [Tryz.underlying9]; rfl
theorem ce9 : Tryz.prog.cellsOf 9 = 1 := by kernel_rfl
theorem by9 : Tryz.prog.bytesOf 9 = 16 := by kernel_rfl
theorem of9 {xs : List PV} (h : Ty Tryz.prog 9 xs) : ∃ (a : ByteArray), xs = [.sc (.string a)] ∧ a.size ≤ 140737488351232 := by
  exact ty_str h Tryz.underlying9
end Go.Den.EB
/- What is told of errors and costs is read back: the law. -/
set_option linter.unusedVariables false
set_option linter.unusedSimpArgs false
set_option maxRecDepth 100000
namespace Go.Den.EB
open Go Go.Proofs
theorem alive45_ev : D 21 [] = some (.sc (.bool true)) := denI_of (k := 100) (by kernel_rfl)
theorem cutpre_ev (l p : List UInt8) : D 84 [.sc (.string (B l)), .sc (.string (B p))] = some (.tup [.sc (.string (B (Lib.trimPrefix l p))), .sc (.bool (Lib.hasPrefix l p))]) := by
  have e : D 84 [.sc (.string (B l)), .sc (.string (B p))] = xCutPrefix [.sc (.string (B l)), .sc (.string (B p))] := (denI_eq 0 _ _).trans (by kernel_rfl)
  rw [e]; rfl
theorem pre_yes (p l : List UInt8) : Lib.hasPrefix (p ++ l) p = true ∧ Lib.trimPrefix (p ++ l) p = l := by
  have h : Lib.hasPrefix (p ++ l) p = true := List.isPrefixOf_iff_prefix.2 (List.prefix_append p l)
  refine ⟨h, ?_⟩
  unfold Lib.trimPrefix
  rw [if_pos h, List.drop_left]
theorem pre_of {p l : List UInt8} (h : Lib.hasPrefix l p = true) : l = p ++ Lib.trimPrefix l p := by
  obtain ⟨z, rfl⟩ := List.isPrefixOf_iff_prefix.1 h
  rw [(pre_yes p z).2]
theorem trim_le (p l : List UInt8) : (Lib.trimPrefix l p).length ≤ l.length := by
  unfold Lib.trimPrefix
  split
  · rw [List.length_drop]; omega
  · exact Nat.le_refl _
def wErr : List UInt8 := [101, 114, 114, 111, 114, 32]
def wCost : List UInt8 := [99, 111, 115, 116, 32]
def okE (e : Int) : Bool := decide (1 ≤ e) && decide (e ≤ 999)
theorem okE_iff {e : Int} : okE e = true ↔ 1 ≤ e ∧ e ≤ 999 := by unfold okE; simp
theorem okE_S {e : Int} (h : okE e = true) : okS e = true := by rw [okE_iff] at h; rw [okS_iff]; omega
def errL (e : Int) : List UInt8 := if okE e = true then wErr ++ dS e else []
theorem errL_len (e : Int) : (errL e).length ≤ 20 := by
  unfold errL
  split
  · rename_i h
    have := dS_len (okE_S h)
    rw [List.length_append]
    show 6 + _ ≤ 20
    omega
  · simp
theorem okE_no {e : Int} (h : ¬ okE e = true) : (decide (e < 1) || decide (e > 999)) = true := by
  rw [okE_iff] at h
  rw [Bool.or_eq_true, decide_eq_true_eq, decide_eq_true_eq]; omega
theorem okE_yes {e : Int} (h : okE e = true) : ¬ (decide (e < 1) || decide (e > 999)) = true := by
  rw [okE_iff] at h
  rw [Bool.or_eq_true, decide_eq_true_eq, decide_eq_true_eq]; omega
theorem rcount_ev {n : Int} (h : okS n = true) : D 75 [.sc (.int .i64 n)] = some (.sc (.string (B (dS n)))) := by
  rw [f75_eq 0]
  exact cb (text_okS h) rfl rfl
theorem eErr : (⟨#[101, 114, 114, 111, 114, 32]⟩ : ByteArray) = B wErr := rfl
theorem eCost : (⟨#[99, 111, 115, 116, 32]⟩ : ByteArray) = B wCost := rfl
theorem error_ev (e : Int) : D 38 [.sc (.int .i64 e)] = some (.sc (.string (B (errL e)))) := by
  rw [f38_eq 0, bO]
  unfold errL
  by_cases h : okE e = true
  · rw [if_pos h]
    have hl := dS_len (okE_S h)
    refine im (okE_yes h) (cb (rcount_ev (okE_S h)) rfl (ip (by simp only [ts, B_size]; omega) ?_))
    simp only [ts]
    rw [eErr, B_append]
  · rw [if_neg h]
    exact ip (okE_no h) rfl
theorem rerror_ev (e : Int) : D 40 [.sc (.int .i64 e)] = some (.sc (.string (B (errL e)))) := by
  rw [f40_eq 0, bO]
  unfold errL
  by_cases h : okE e = true
  · rw [if_pos h]
    have hl := dS_len (okE_S h)
    refine im (okE_yes h) (cb (digits_okS (okE_S h)) rfl (ip (by simp only [ts, B_size]; omega) ?_))
    simp only [ts]
    rw [eErr, B_append]
  · rw [if_neg h]
    exact ip (okE_no h) rfl
def goodE (g : Int × Bool) (l : List UInt8) : Prop := (g.2 = true → okE g.1 = true ∧ errL g.1 = l) ∧ (g.2 = false → g.1 = 0 ∧ ∀ e, okE e = true → errL e ≠ l)
theorem errL_inj {a b : Int} (ha : okE a = true) (hb : okE b = true) (h : errL a = errL b) : a = b := by
  unfold errL at h
  rw [if_pos ha, if_pos hb] at h
  exact dS_inj (okE_S ha) (okE_S hb) (List.append_cancel_left h)
theorem errL_ne {e : Int} (h : okE e = true) : errL e ≠ [] := by
  unfold errL
  rw [if_pos h]
  unfold wErr; simp
theorem readError_ev (l : List UInt8) (hl : l.length ≤ 1000000) : ∃ g, D 39 [.sc (.string (B l))] = some (pvG g) ∧ goodE g l := by
  rw [f39_eq 0, eErr]
  have hc := cutpre_ev l wErr
  have ht := trim_le wErr l
  have hp := parse_ev (l := Lib.trimPrefix l wErr) (by omega)
  have key : ∀ e, okE e = true → errL e = l → Lib.hasPrefix l wErr = true ∧ parseL (Lib.trimPrefix l wErr) = (e * 10000, true) := by
    intro e he h
    have hs := okE_S he
    have hr := okS_iff.1 hs
    unfold errL at h
    rw [if_pos he] at h
    rw [← h, (pre_yes wErr (dS e)).1, (pre_yes wErr (dS e)).2, ← tex_dS hs, parse_texS (by unfold I64; omega), if_pos (by unfold May; omega)]
    exact ⟨rfl, rfl⟩
  have hI : I64 (parseL (Lib.trimPrefix l wErr)).1 := by
    unfold parseL
    split
    · exact read_ok.1
    · unfold I64; dsimp only; omega
  generalize hg : parseL (Lib.trimPrefix l wErr) = g at *
  have ew : IntKind.i64.wrap (g.1.tdiv 10000) = g.1.tdiv 10000 := by
    unfold I64 at hI
    have := tdm g.1 (m := 10000) (by decide)
    exact w64 (by omega) (by omega)
  by_cases h1 : Lib.hasPrefix l wErr = true ∧ g.2 = true ∧ errL (g.1.tdiv 10000) = l
  · obtain ⟨h1, h2, h3⟩ := h1
    have hok : okE (g.1.tdiv 10000) = true := by
      apply Classical.byContradiction
      intro hn
      unfold errL at h3
      rw [if_neg hn] at h3
      rw [← h3] at h1
      revert h1; decide
    refine ⟨(g.1.tdiv 10000, true), ?_, fun _ => ⟨hok, h3⟩, fun h => by cases h⟩
    refine cb hc rfl (cb hp rfl ?_)
    have k1 : (cel 1 (PV.tup [.sc (.string (B (Lib.trimPrefix l wErr))), .sc (.bool (Lib.hasPrefix l wErr))]).parts).toBool = Lib.hasPrefix l wErr := rfl
    rw [k1, h1, pvG_0, pvG_1, h2, ew, error_ev, h3]
    simp only [bs, shs, tb, ts, if_true, Bool.not_true, Bool.false_eq_true, if_false, beq_self_eq_true]
    rfl
  · refine ⟨(0, false), ?_, (fun h => by cases h), fun _ => ⟨rfl, fun e he h => ?_⟩⟩
    · refine cb hc rfl (cb hp rfl ?_)
      have k1 : (cel 1 (PV.tup [.sc (.string (B (Lib.trimPrefix l wErr))), .sc (.bool (Lib.hasPrefix l wErr))]).parts).toBool = Lib.hasPrefix l wErr := rfl
      rw [k1, pvG_0, pvG_1, ew, error_ev]
      cases ha : Lib.hasPrefix l wErr
      · rfl
      · cases hb : g.2
        · rfl
        · have hc' : ((B (errL (g.1.tdiv 10000))).toList == (B l).toList) = false := by
            rw [B_toList, B_toList]
            exact beq_eq_false_iff_ne.2 (fun h3 => h1 ⟨ha, hb, h3⟩)
          simp only [bs, shs, tb, ts, if_true, Bool.not_true, Bool.false_eq_true, if_false, hc', Bool.not_false]
          rfl
    · obtain ⟨k1, k2⟩ := key e he h
      refine h1 ⟨k1, by rw [k2], ?_⟩
      have hr := okE_iff.1 he
      rw [k2]
      show errL (Int.tdiv (e * 10000) 10000) = l
      rw [Int.tdiv_eq_ediv_of_nonneg (by omega), show e * 10000 / 10000 = e by omega]
      exact h
theorem goodE_uniq {r s : Int × Bool} {l : List UInt8} (h : goodE r l) (g : goodE s l) : r = s := by
  obtain ⟨c, x⟩ := r
  obtain ⟨d, y⟩ := s
  cases x
  · obtain ⟨e1, h1⟩ := h.2 rfl
    cases y
    · obtain ⟨e2, _⟩ := g.2 rfl
      dsimp only at e1 e2
      rw [e1, e2]
    · obtain ⟨g1, g2⟩ := g.1 rfl
      exact absurd g2 (h1 d g1)
  · obtain ⟨h1, h2⟩ := h.1 rfl
    cases y
    · obtain ⟨_, g2⟩ := g.2 rfl
      exact absurd h2 (g2 c h1)
    · obtain ⟨g1, g2⟩ := g.1 rfl
      dsimp only at h1 h2 g1 g2
      rw [errL_inj h1 g1 (h2.trans g2.symm)]
theorem rreadError_l (l : List UInt8) (g : Int × Bool) (hg : goodE g l) : ∀ (d : Nat) (e : Int), 1 ≤ e → e + d = 1000 → (∀ e', 1 ≤ e' → e' < e → errL e' ≠ l) → f41.l0a 0 (B l) e = some (.sc (.int .i64 g.1)) := by
  intro d
  induction d with
  | zero =>
    intro e h1 h2 h3
    rw [f41.l0a_eq]
    refine im (by rw [decide_eq_true_eq]; omega) ?_
    cases hb : g.2
    · rw [(hg.2 hb).1]
    · obtain ⟨k1, k2⟩ := hg.1 hb
      rw [okE_iff] at k1
      exact absurd k2 (h3 g.1 k1.1 (by omega))
  | succ d ih =>
    intro e h1 h2 h3
    rw [f41.l0a_eq]
    refine ip (by rw [decide_eq_true_eq]; omega) (cb (rerror_ev e) rfl ?_)
    have hok : okE e = true := by rw [okE_iff]; omega
    by_cases h : errL e = l
    · refine ip (by simp only [ts, B_toList]; rw [h]; exact beq_self_eq_true _) ?_
      cases hb : g.2
      · exact absurd h ((hg.2 hb).2 e hok)
      · obtain ⟨k1, k2⟩ := hg.1 hb
        rw [errL_inj k1 hok (k2.trans h.symm)]
    · refine im (by simp only [ts, B_toList, beq_iff_eq]; exact h) ?_
      rw [w64 (by omega) (by omega)]
      refine ih (e + 1) (by omega) (by omega) ?_
      intro e' h4 h5
      by_cases h6 : e' < e
      · exact h3 e' h4 h6
      · rw [show e' = e by omega]; exact h
theorem rreadError_ev (l : List UInt8) (g : Int × Bool) (hg : goodE g l) : D 41 [.sc (.string (B l))] = some (.sc (.int .i64 g.1)) := by
  rw [f41_eq 0]
  exact rreadError_l l g hg 999 1 (by decide) (by decide) (fun e' h1 h2 => absurd h2 (by omega))
theorem cost_ev (c : C5) : D 44 [c.pv] = some (.sc (.string (B (wCost ++ mtext c)))) := by
  have t := meter_text c
  have hl := mtext_len c
  obtain ⟨a0, a1, a2, a3, a4⟩ := c
  refine (f44_eq 0 a0 a1 a2 a3 a4).trans ?_
  simp only [C5.fold]
  refine cb t rfl (ip (by simp only [ts, B_size]; omega) ?_)
  simp only [ts]
  rw [eCost, B_append]
theorem rcost_ev (c : C5) : D 46 [c.pv] = some (.sc (.string (B (wCost ++ mtext c)))) := by
  have t := rmeter_text c
  have hl := mtext_len c
  obtain ⟨a0, a1, a2, a3, a4⟩ := c
  refine (f46_eq 0 a0 a1 a2 a3 a4).trans ?_
  simp only [C5.fold]
  refine cb t rfl (ip (by simp only [ts, B_size]; omega) ?_)
  simp only [ts]
  rw [eCost, B_append]
def goodK (r : C5 × Bool) (l : List UInt8) : Prop := (Lib.hasPrefix l wCost = true ∧ goodC r (Lib.trimPrefix l wCost)) ∨ (Lib.hasPrefix l wCost = false ∧ r = (⟨0, 0, 0, 0, 0⟩, false))
theorem goodK_uniq {r s : C5 × Bool} {l : List UInt8} (h : goodK r l) (g : goodK s l) : r = s := by
  rcases h with ⟨h1, h2⟩ | ⟨h1, h2⟩ <;> rcases g with ⟨g1, g2⟩ | ⟨g1, g2⟩
  · exact good_uniq h2 g2
  · rw [h1] at g1; cases g1
  · rw [h1] at g1; cases g1
  · rw [h2, g2]
theorem readCost_ev (l : List UInt8) (hl : l.length ≤ 1000000) : ∃ r, D 43 [.sc (.string (B l))] = some (pvP r) ∧ goodK r l := by
  rw [f43_eq 0, eCost]
  have hc := cutpre_ev l wCost
  have ht := trim_le wCost l
  obtain ⟨r, e, g⟩ := mparse_ev (Lib.trimPrefix l wCost) (by omega)
  cases hp : Lib.hasPrefix l wCost
  · rw [hp] at hc
    exact ⟨_, cb hc rfl (ip rfl rfl), Or.inr ⟨hp, rfl⟩⟩
  · rw [hp] at hc
    exact ⟨r, cb hc rfl (im (show ¬ (!true) = true by decide) (cb e rfl rfl)), Or.inl ⟨hp, g⟩⟩
theorem rreadCost_ev (l : List UInt8) (hl : l.length ≤ 1000000) : ∃ r, D 45 [.sc (.string (B l))] = some (pvW r) ∧ goodK r l := by
  rw [f45_eq 0, eCost]
  by_cases h5 : l.length < 5
  · have c1 : decide (((B l).size : Int) < 5) = true := by rw [decide_eq_true_eq, B_size]; omega
    have hp : Lib.hasPrefix l wCost = false := by
      cases h : Lib.hasPrefix l wCost
      · rfl
      · have := pre_of h
        have := congrArg List.length this
        rw [List.length_append] at this
        have e5 : wCost.length = 5 := rfl
        omega
    refine ⟨(⟨0, 0, 0, 0, 0⟩, false), ?_, Or.inr ⟨hp, rfl⟩⟩
    rw [c1]
    rfl
  · have c1 : decide (((B l).size : Int) < 5) = false := by rw [decide_eq_false_iff_not, B_size]; omega
    have c2 : (5 : Int) ≤ ((B l).size : Int) := by rw [B_size]; omega
    have ex : (B l).extract 0 5 = B (l.take 5) := by rw [B_extract]; rfl
    have ex2 : (B l).extract 5 (((B l).size : Int).toNat) = B (l.drop 5) := by
      rw [Int.toNat_natCast, B_extract, B_size]
      congr 1
      apply List.take_of_length_le
      rw [List.length_drop]; omega
    have hpe : Lib.hasPrefix l wCost = (l.take 5 == wCost) := by
      rw [Bool.eq_iff_iff, beq_iff_eq]
      constructor
      · intro h
        have := pre_of h
        rw [this]
        exact List.take_left (l₁ := wCost)
      · intro h
        unfold Lib.hasPrefix
        rw [List.isPrefixOf_iff_prefix, ← h]
        exact List.take_prefix _ _
    rw [c1, ex, B_toList, B_toList, ← hpe]
    cases hp : Lib.hasPrefix l wCost
    · refine ⟨(⟨0, 0, 0, 0, 0⟩, false), ?_, Or.inr ⟨hp, rfl⟩⟩
      simp only [bs, tb, Bool.false_eq_true, if_false, if_pos c2, Bool.not_false, if_true]
      rfl
    · have htr : Lib.trimPrefix l wCost = l.drop 5 := by unfold Lib.trimPrefix; rw [if_pos hp]; rfl
      obtain ⟨r, e, g⟩ := rparse_ev (l.drop 5) (by rw [List.length_drop]; omega)
      refine ⟨r, ?_, Or.inl ⟨hp, by rw [htr]; exact g⟩⟩
      simp only [bs, tb, Bool.false_eq_true, if_false, if_pos c2, Bool.not_true]
      refine ip (by omega) (ip (Int.le_refl _) ?_)
      rw [ex2]
      exact cb e rfl rfl
theorem replyBack_D (e : Int) (c : C5) (l : List UInt8) : D 6 [.sc (.int .i64 e), c.pv, .sc (.string (B l))] = some (.sc (.bool true)) := by
  have rr := rrights_ev c
  have ce := cost_ev c
  have rce := rcost_ev c
  have hml := mtext_len c
  have hok : okC c = true → mtext c = mtC c := fun h => by unfold mtext; rw [if_pos h]
  obtain ⟨a0, a1, a2, a3, a4⟩ := c
  refine (f6_eq 0 e a0 a1 a2 a3 a4 (B l)).trans ?_
  by_cases hl : l.length ≤ 200
  · refine im (by rw [decide_eq_true_eq, B_size]; omega) ?_
    simp only [C5.fold]
    have hel := errL_len e
    obtain ⟨r, e1, g1⟩ := readError_ev (errL e) (by omega)
    obtain ⟨s, e2, g2⟩ := readError_ev l (by omega)
    have e3 := rreadError_ev l s g2
    refine cb (error_ev e) rfl (cb e1 rfl (cb e2 rfl (cb (rerror_ev e) rfl ?_)))
    have er : r = if okE e = true then (e, true) else (0, false) := by
      by_cases h : okE e = true
      · rw [if_pos h]
        exact goodE_uniq g1 ⟨fun _ => ⟨h, rfl⟩, fun h => by cases h⟩
      · rw [if_neg h]
        refine goodE_uniq g1 ⟨(fun h => by cases h), fun _ => ⟨rfl, fun e' he' h' => ?_⟩⟩
        have : errL e = [] := by unfold errL; rw [if_neg h]
        rw [this] at h'
        exact errL_ne he' h'
    have emp : ((B (errL e)).toList == (⟨#[]⟩ : ByteArray).toList) = !okE e := by
      rw [show (⟨#[]⟩ : ByteArray) = B [] from rfl, B_toList, B_toList]
      cases h : okE e
      · unfold errL; rw [h]; rfl
      · exact beq_eq_false_iff_ne.2 (errL_ne h)
    have es : (s.1 != 0) = s.2 := by
      cases hb : s.2
      · rw [(g2.2 hb).1]; rfl
      · have := okE_iff.1 (g2.1 hb).1
        rw [bne_iff_ne]; omega
    have erb : r.2 = okE e := by rw [er]; cases okE e <;> rfl
    have ere : r.2 = true → r.1 = e := by
      intro h
      rw [erb] at h
      rw [er, if_pos h]
    simp only [pvG_0, pvG_1, ts, emp, e3, bs, shb, tb, ti, if_true, beq_self_eq_true, Bool.not_true, Bool.false_eq_true, if_false, bne_self_eq_false, es, erb, Bool.not_not]
    have hr1 : (okE e = true → r.1 = e) := fun h => ere (by rw [erb]; exact h)
    have cond : (if okE e = true then some (PV.sc (.bool (r.1 != e))) else some (PV.sc (.bool false))) = some (PV.sc (.bool false)) := by
      cases h : okE e
      · rfl
      · rw [hr1 h, bne_self_eq_false]; rfl
    simp only [cond, bs, tb, Bool.false_eq_true, if_false, beq_self_eq_true, Bool.not_true]
    cases hO : okC ⟨a0, a1, a2, a3, a4⟩
    · rw [hO] at rr
      refine cb rr rfl (ip rfl (cb alive45_ev rfl rfl))
    · rw [hO] at rr
      have hh := hok hO
      rw [hh] at ce rce hml
      obtain ⟨x, x1, x2⟩ := readCost_ev (wCost ++ mtC ⟨a0, a1, a2, a3, a4⟩) (by rw [List.length_append]; show 5 + _ ≤ _; omega)
      obtain ⟨y, y1, y2⟩ := readCost_ev l (by omega)
      obtain ⟨z, z1, z2⟩ := rreadCost_ev l (by omega)
      obtain rfl := goodK_uniq y2 z2
      have hx : x = (⟨a0, a1, a2, a3, a4⟩, true) := by
        refine goodK_uniq x2 (Or.inl ⟨(pre_yes _ _).1, ?_⟩)
        rw [(pre_yes _ _).2]
        exact ⟨fun _ => ⟨hO, rfl⟩, fun h => by cases h⟩
      subst hx
      refine cb rr rfl (im (by decide) (cb ce rfl (cb x1 rfl (cb y1 rfl (cb z1 rfl (cb ce rfl (cb rce rfl ?_)))))))
      have k0 : ∀ (x : C5 × Bool), (cel 0 (cel 0 (pvP x).parts).cells).toInt = x.1.a := fun x => rfl
      have k1 : ∀ (x : C5 × Bool), (cel 1 (cel 0 (pvP x).parts).cells).toInt = x.1.b := fun x => rfl
      have k2 : ∀ (x : C5 × Bool), (cel 2 (cel 0 (pvP x).parts).cells).toInt = x.1.c := fun x => rfl
      have k3 : ∀ (x : C5 × Bool), (cel 3 (cel 0 (pvP x).parts).cells).toInt = x.1.d := fun x => rfl
      have k4 : ∀ (x : C5 × Bool), (cel 4 (cel 0 (pvP x).parts).cells).toInt = x.1.e := fun x => rfl
      have k5 : ∀ (x : C5 × Bool), (cel 1 (pvP x).parts).toBool = x.2 := fun x => rfl
      have j0 : ∀ (x : C5 × Bool), (cel 0 (pvW x).cells).toInt = x.1.a := fun x => rfl
      have j1 : ∀ (x : C5 × Bool), (cel 1 (pvW x).cells).toInt = x.1.b := fun x => rfl
      have j2 : ∀ (x : C5 × Bool), (cel 2 (pvW x).cells).toInt = x.1.c := fun x => rfl
      have j3 : ∀ (x : C5 × Bool), (cel 3 (pvW x).cells).toInt = x.1.d := fun x => rfl
      have j4 : ∀ (x : C5 × Bool), (cel 4 (pvW x).cells).toInt = x.1.e := fun x => rfl
      have j5 : ∀ (x : C5 × Bool), (cel 5 (pvW x).cells).toBool = x.2 := fun x => rfl
      simp only [k0, k1, k2, k3, k4, k5, j0, j1, j2, j3, j4, j5, alive45_ev, bs, shb, tb, ts, if_true, beq_self_eq_true, Bool.and_self]
  · exact ip (by rw [decide_eq_true_eq, B_size]; omega) (cb alive45_ev rfl rfl)
theorem replyBack_law (W : World) (vs : List Value) (xs : List PV) (h : Handed Tryz.prog W [3, 56, 9] vs xs) : D 6 xs = some (.sc (.bool true)) := by
  obtain ⟨a, _, _, rfl, ha, h⟩ := handed_cons h
  obtain ⟨b, _, _, rfl, hb, h⟩ := handed_cons h
  obtain ⟨c, _, _, rfl, hc, h⟩ := handed_cons h
  obtain rfl := handed_nil h
  obtain ⟨e, rfl, _⟩ := of3 ha
  obtain ⟨a0, a1, a2, a3, a4, rfl, _⟩ := of56 hb
  obtain ⟨t, rfl, _⟩ := of9 hc
  rw [on3, ag56, on9]
  obtain ⟨l, rfl⟩ := B_of t
  exact replyBack_D e ⟨a0, a1, a2, a3, a4⟩ l
end Go.Den.EB
set_option maxRecDepth 100000
namespace Go.Proofs.YtbkdoeghgdbjlaaGreatDoor.replyBack
open Go.ChangeShapes Go.WideShapes Go.ChangeAt Go.RowKit Go.Den
theorem own : ownKnob Tryz.prog.godebug = none := by kernel_rfl
theorem laidOut : laidOutB Tryz.prog = true := by kernel_rfl
theorem good : goodAll Tryz.prog [3, 56, 9] = true := by kernel_rfl
theorem follows : Tryz.prog.follows .mixedOrders = true := by kernel_rfl
theorem tabs_laid {W : World} (h : laidMet Tryz.prog Rows.replyBackRow.laid W) (hS : W.ShapedOpen Tryz.prog) : Tabs2 W := by
  refine ⟨⟨?_, ?_⟩, ?_⟩
  · exact Lib.tabIs_of_head (g := 5) (t := 212) (e := 158) (n := 20) (by kernel_rfl) (by kernel_rfl) (by kernel_rfl) (by kernel_rfl) (by kernel_rfl) (by kernel_rfl) (laidMet.tail (laidMet.tail h))
  · exact Go.Proofs.cell_of_shapedOpen_int (g := 1) (zero := #[.int .i64 0]) (t := 3) hS (of_decide_eq_true (by kernel_rfl)) (by kernel_rfl) rfl (by kernel_rfl) (by kernel_rfl) Tryz.underlying3
  · exact Lib.tabIs_of_head (g := 0) (t := 177) (e := 5) (n := 256) (by kernel_rfl) (by kernel_rfl) (by kernel_rfl) (by kernel_rfl) (by kernel_rfl) (by kernel_rfl) (laidMet.tail (laidMet.tail (laidMet.tail (laidMet.tail (laidMet.tail h)))))
theorem lifted (os : Os) (started : os.Started) (H : Type) (enc : TypeId × Value → H) :
    ReturnsInHanded {} Tryz.checked os 6 .any (fun w args => (Rows.replyBackSpec.pre enc Tryz.prog Tryz.f6 Rows.replyBackRow.domain false w args ∧ laidMetH Tryz.prog Rows.replyBackRow.laid w) ∧ sizedMet enc Tryz.prog Tryz.f6 (OpenSpec.ofChange Rows.replyBackSpec) false w args) (Rows.replyBackSpec.post enc Tryz.prog Tryz.f6 false true false false) := by
  refine returns_and_shaped (C := Tryz.checked) (X := fun w _ => laidMetH Tryz.prog Rows.replyBackRow.laid w) (fun _ _ _ hh h => h.of_heap hh) own started (by kernel_rfl) Tryz.func6
    (ChangeSpec.witness_shaped (enc := enc) (C := Tryz.checked) (os := os) (X := fun w _ => laidMetH Tryz.prog Rows.replyBackRow.laid w) false (World.laidAll Tryz.prog os Rows.replyBackRow.laid) #[.int .i64 0, .agg #[.int .i64 0, .int .i64 0, .int .i64 0, .int .i64 0, .int .i64 0], .string ⟨#[]⟩] 8 (World.laidAll_os _ _ _)
      (World.shaped_of_ZipB (by kernel_rfl) (by kernel_rfl)) (by kernel_rfl) (by kernel_rfl) (by kernel_rfl)
      (by rw [MakeChecks.laidMetH_plain _ _ _ (by kernel_rfl)]; exact laidMet_laidAll _ (by kernel_rfl) (by kernel_rfl))) ?_
  intro W base args ds gs before hval0 hW hcnd hsz0 hL hS
  have hval : ∀ (j : Nat) t v, Tryz.f6.params[j]? = some t → args[j]? = some v → Value.okWide Tryz.prog W .any base t v := hval0
  have hW' := hW
  obtain ⟨p, q, hA0, hV, rfl, hfz, hnd⟩ := hW
  have hA : DataW.TrodAll enc Tryz.prog W 0 (fun _ => true) true [3, 56, 9] args.toList ds p := hA0
  obtain ⟨rfl, rfl⟩ := trodVars_none hV
  obtain ⟨xs, hH⟩ := open_all good [3, 56, 9] args.toList ds p (by decide) hA (fun j t v ht hv => hval j t v (by rw [Tryz.params6]; simpa using ht) (by simpa using hv)) fun n hn => by
    have hz : (DataW.weightsEach Tryz.prog (Tryz.f6.params.toList ++ Rows.replyBackSpec.plain.varTypes Tryz.prog) (ds ++ [])).all (· ≤ reachBytes) = true := hsz0
    rw [Tryz.params6] at hz
    have := List.all_eq_true.1 hz n (weights_app n hn)
    simpa using this
  have hD := EB.replyBack_law W args.toList xs hH
  have hok := Den.denI_ok (T := Tabs2) follows Tabs2.below EB.ext_ok 6 xs _ hD
  refine (Den.law_calls hok (tabs_laid (by rw [MakeChecks.laidMetH_plain _ _ _ (by kernel_rfl)] at hL; exact hL) hS) hH).mono fun e W' ⟨he, bel⟩ => ?_
  subst he
  have hback := carry_all laidOut bel [3, 56, 9] args.toList ds p (by kernel_rfl) hA
  obtain ⟨v0, vs0, d0, ds0, p0, q0, hargs0, rfl, rfl, h0, r0⟩ := trodAll_cons hA
  obtain ⟨v1, vs1, d1, ds1, p1, q1, hargs1, rfl, rfl, h1, r1⟩ := trodAll_cons r0
  obtain ⟨v2, vs2, d2, ds2, p2, q2, hargs2, rfl, rfl, h2, r2⟩ := trodAll_cons r1
  obtain ⟨_, rfl, _⟩ := trodAll_nil r2
  exact ⟨_, rfl, _, _, _, [], _, [], hW', trodAll_mk1 (shut_bool Tryz.underlying4 _), hback, rfl, bel.frame _, fun h => by cases h⟩
theorem over : Rows.replyBackRow.holds Tryz.pinned (OpenSpec.ofChange Rows.replyBackSpec) :=
  OpenClaim.holds_of_wide 6 Tryz.f6 rfl rfl rfl rfl rfl rfl rfl ⟨rfl, rfl, rfl, rfl, rfl⟩ rfl rfl rfl rfl rfl (by kernel_rfl) Tryz.func6 (by kernel_rfl)
    (of_decide_eq_true (by kernel_rfl)) (by unfold Func.isWrapper; first | (rw [if_pos (by decide +kernel)]; kernel_rfl) | (rw [if_neg (by decide +kernel)]; exact ⟨rfl, rfl⟩))
    (fun os started H enc _ => lifted os started H enc)
theorem card : Rows.ReplyBackCardSaid :=
  Claim7.holds_tied_plain_at .later [] [.data, .data, .data, .data, .listed, .data, .pinned] true (true, "659ed9991f33e97e3d8b980347ba9c2a1e08588dd83fbf37082a2ffb49c49e8b") false over (fun _ h => by cases h) (by kernel_rfl) (fun _ h => by cases h) replyBack_row_tie rfl ⟨rfl, rfl⟩ (by kernel_rfl) rfl
    (fun f fn hf hfn => by
      obtain rfl : f = 6 := Option.some.inj ((show Tryz.prog.funcNamed Rows.replyBackRow.func = some 6 by kernel_rfl).symm.trans hf) |>.symm
      obtain rfl : fn = Tryz.f6 := (Option.some.inj (Tryz.func6.symm.trans hfn)).symm
      refine ⟨by kernel_rfl, fun j t ht => ?_⟩
      have hall : (Tryz.f6.params.toList.all fun u => !Tryz.prog.wantsStandIn u) = true := by kernel_rfl
      have hm : t ∈ Tryz.f6.params.toList := by simpa using Array.mem_of_getElem? ht
      exact (show Tryz.prog.wantsStandIn t = false by simpa using List.all_eq_true.1 hall t hm))
    (by kernel_rfl)
end Go.Proofs.YtbkdoeghgdbjlaaGreatDoor.replyBack
namespace Go.Proofs.YtbkdoeghgdbjlaaGreatDoor
theorem replyBack_holds : Rows.ReplyBackCardSaid := replyBack.card
end Go.Proofs.YtbkdoeghgdbjlaaGreatDoor
