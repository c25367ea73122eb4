/- Decimals as texts: the plain part. -/
import Derived.Test.YtbkdoeghgdbjlaaDoorDenV
import Derived.Lib.IndexBytes
import Derived.Lib.IndexMore
import Derived.Lib.ItoaNum
import Derived.Laws.Strings
import Derived.Laws.BitsLemmas
import Derived.Lib.Fields
import Derived.Lib.TrimByte
namespace Go.Den
open Go Go.RowKit Go.Proofs
set_option linter.unusedVariables false
set_option linter.unusedSimpArgs false
theorem u64w (x : Int) : IntKind.u64.wrap x = x % 18446744073709551616 := by
  simp [IntKind.wrap, IntKind.bits, IntKind.signed]
theorem u64i {x : Int} (h0 : 0 ≤ x) (h : x < 18446744073709551616) : IntKind.u64.wrap x = x := by
  rw [u64w]; omega
theorem and32 {a : Int} (h0 : 0 ≤ a) (h1 : a < 18446744073709551616) : Go.bits .and .u64 a 4294967295 = a % 4294967296 :=
  bits_mask .u64 64 (by decide) (fun n h0 h1 => u64i h0 (by simpa using h1)) 32 (by decide) a h0 (by simpa using h1)
theorem prodB {x y : Int} (hx0 : 0 ≤ x) (hx : x ≤ 4294967295) (hy0 : 0 ≤ y) (hy : y ≤ 4294967295) : 0 ≤ x * y ∧ x * y ≤ 18446744065119617025 :=
  ⟨Int.mul_nonneg hx0 hy0, Int.le_trans (Int.mul_le_mul hx hy hy0 (by decide)) (by decide)⟩
def B (l : List UInt8) : ByteArray := ⟨l.toArray⟩
theorem B_of (s : ByteArray) : ∃ l, s = B l := ⟨s.data.toList, by rcases s with ⟨⟨l⟩⟩; rfl⟩
theorem B_data (l : List UInt8) : (B l).data.toList = l := rfl
theorem B_size (l : List UInt8) : (B l).size = l.length := rfl
theorem B_append (l m : List UInt8) : B l ++ B m = B (l ++ m) := by
  apply ByteArray.ext
  simp [B]
theorem B_toList (l : List UInt8) : (B l).toList = l := by
  exact ByteArray.toList_eq _
theorem B_inj {l m : List UInt8} : B l = B m ↔ l = m := ⟨fun h => by have := congrArg (fun s : ByteArray => s.data.toList) h; exact this, fun h => by rw [h]⟩
theorem B_extract (l : List UInt8) (i j : Nat) : (B l).extract i j = B ((l.drop i).take (j - i)) := by
  apply ByteArray.ext
  simp [B]
theorem B_bt {l : List UInt8} {i : Nat} (h : i < l.length) : bt (B l) (i : Int) = (l[i].toNat : Int) := by
  unfold bt
  rw [dif_pos (show ((i : Int)).toNat < (B l).size by rw [Int.toNat_natCast]; exact h)]
  rfl
def May (x : Int) : Prop := -9223372036854775808 < x ∧ x ≤ 9223372036854775807
instance (x : Int) : Decidable (May x) := by unfold May; infer_instance
/-- The sign of what three signs give. -/
def sg (a b c q : Int) : Int := if ((decide (a < 0) != decide (b < 0)) != decide (c < 0)) = true then -q else q
theorem natAbs_lt {x : Int} (h : May x) : 0 ≤ (x.natAbs : Int) ∧ (x.natAbs : Int) ≤ 9223372036854775807 := by unfold May at h; omega
theorem abs_prod {a b : Int} (ha : May a) (hb : May b) : 0 ≤ (a.natAbs : Int) * b.natAbs ∧ (a.natAbs : Int) * b.natAbs ≤ 85070591730234615847396907784232501249 :=
  ⟨Int.mul_nonneg (natAbs_lt ha).1 (natAbs_lt hb).1, Int.le_trans (Int.mul_le_mul (natAbs_lt ha).2 (natAbs_lt hb).2 (natAbs_lt hb).1 (by decide)) (by decide)⟩

def I64 (x : Int) : Prop := -9223372036854775808 ≤ x ∧ x ≤ 9223372036854775807
theorem May.i {x : Int} (h : May x) : I64 x := by unfold May at h; unfold I64; omega
def addS (a b : Int) : Int × Bool := if May a ∧ May b ∧ May (a + b) then (a + b, true) else (0, false)
def negS (a : Int) : Int × Bool := if May a then (-a, true) else (0, false)
def subS (a b : Int) : Int × Bool := if May a ∧ May b ∧ May (a - b) then (a - b, true) else (0, false)
theorem addS_yes {a b : Int} (h : May a ∧ May b ∧ May (a + b)) : addS a b = (a + b, true) := if_pos h
theorem addS_no {a b : Int} (h : ¬ May (a + b)) : addS a b = (0, false) := if_neg (fun hh => h hh.2.2)
theorem tdm (a : Int) {m : Int} (hm : 0 < m) : a = a.tdiv m * m + a.tmod m ∧ (0 ≤ a → 0 ≤ a.tmod m ∧ a.tmod m < m) ∧ (a ≤ 0 → -m < a.tmod m ∧ a.tmod m ≤ 0) := by
  refine ⟨(Int.tdiv_mul_add_tmod a m).symm, fun h => ⟨Int.tmod_nonneg _ h, Int.tmod_lt_of_pos _ hm⟩, fun h => ?_⟩
  have h1 := Int.tmod_nonneg m (a := -a) (by omega)
  have h2 := Int.tmod_lt_of_pos (-a) hm
  rw [Int.neg_tmod] at h1 h2
  omega
def mulS (a b : Int) : Int × Bool := if May a ∧ May b ∧ May (a * b) then (a * b, true) else (0, false)
theorem mulS_yes {a b : Int} (h : May a ∧ May b ∧ May (a * b)) : mulS a b = (a * b, true) := if_pos h
theorem mulS_no {a b : Int} (h : ¬ May (a * b)) : mulS a b = (0, false) := if_neg (fun hh => h hh.2.2)
theorem sg_one (a b : Int) : sg a b 1 ((a.natAbs : Int) * b.natAbs) = a * b := by
  unfold sg
  rcases (by omega : a < 0 ∨ 0 ≤ a) with ha | ha <;> rcases (by omega : b < 0 ∨ 0 ≤ b) with hb | hb
  · rw [decide_eq_true ha, decide_eq_true hb, Int.ofNat_natAbs_of_nonpos (by omega), Int.ofNat_natAbs_of_nonpos (by omega)]
    simp [Int.neg_mul_neg]
  · rw [decide_eq_true ha, decide_eq_false (by omega), Int.ofNat_natAbs_of_nonpos (by omega), Int.natAbs_of_nonneg hb]
    simp [Int.neg_mul]
  · rw [decide_eq_false (by omega), decide_eq_true hb, Int.natAbs_of_nonneg ha, Int.ofNat_natAbs_of_nonpos (by omega)]
    simp [Int.mul_neg]
  · rw [decide_eq_false (by omega), decide_eq_false (by omega), Int.natAbs_of_nonneg ha, Int.natAbs_of_nonneg hb]
    simp
theorem mul64_math {a b : Int} (ha0 : 0 ≤ a) (ha : a < 18446744073709551616) (hb0 : 0 ≤ b) (hb : b < 18446744073709551616) :
    ∃ p11 p10 p01 p00 : Int, p11 = (a / 4294967296) * (b / 4294967296) ∧ p10 = (a / 4294967296) * (b % 4294967296) ∧ p01 = (a % 4294967296) * (b / 4294967296) ∧ p00 = (a % 4294967296) * (b % 4294967296)
      ∧ (0 ≤ p11 ∧ p11 ≤ 18446744065119617025) ∧ (0 ≤ p10 ∧ p10 ≤ 18446744065119617025) ∧ (0 ≤ p01 ∧ p01 ≤ 18446744065119617025) ∧ (0 ≤ p00 ∧ p00 ≤ 18446744065119617025)
      ∧ a * b = p11 * 18446744073709551616 + (p10 + p01) * 4294967296 + p00 := by
  refine ⟨_, _, _, _, rfl, rfl, rfl, rfl, prodB (by omega) (by omega) (by omega) (by omega), prodB (by omega) (by omega) (by omega) (by omega), prodB (by omega) (by omega) (by omega) (by omega), prodB (by omega) (by omega) (by omega) (by omega), ?_⟩
  have ea : a = a / 4294967296 * 4294967296 + a % 4294967296 := by omega
  have eb : b = b / 4294967296 * 4294967296 + b % 4294967296 := by omega
  generalize a / 4294967296 = x1 at *
  generalize a % 4294967296 = x0 at *
  generalize b / 4294967296 = y1 at *
  generalize b % 4294967296 = y0 at *
  subst ea eb
  grind

def dc (n : Nat) : UInt8 := UInt8.ofNat (48 + n)
theorem dd_small {n : Nat} (h : n < 10) : Lib.decDigits n = [dc n] := by rw [Lib.decDigits, dif_pos h]; rfl
theorem dd_big {n : Nat} (h : ¬ n < 10) : Lib.decDigits n = Lib.decDigits (n / 10) ++ [dc (n % 10)] := by rw [Lib.decDigits, dif_neg h]; rfl
/-- The digits ahead of the last one. -/
def dg (n : Nat) : List UInt8 := if n = 0 then [] else Lib.decDigits n
theorem dg_step (n : Nat) : dg (n / 10) ++ [dc (n % 10)] = Lib.decDigits n := by
  by_cases h : n < 10
  · rw [dd_small h, dg, if_pos (by omega), List.nil_append, Nat.mod_eq_of_lt h]
  · rw [dd_big h, dg, if_neg (by omega)]
theorem dd_len (d : Nat) : ∀ n, n < 10 ^ (d + 1) → (Lib.decDigits n).length ≤ d + 1 := by
  induction d with
  | zero => intro n h; rw [dd_small (by simpa using h)]; simp
  | succ d ih =>
    intro n h
    by_cases h1 : n < 10
    · rw [dd_small h1]; simp
    · rw [dd_big h1, List.length_append]
      have := ih (n / 10) (by rw [Nat.pow_succ] at h; omega)
      simp
      omega
/-- The parts behind the point: no nought at the end. -/
def fracL : Nat → Nat → List UInt8
  | 0, _ => []
  | d + 1, r => if r = 0 then [] else dc (r / 1000) :: fracL d (r % 1000 * 10)
def fracS (r : Nat) : List UInt8 := if r = 0 then [] else 46 :: fracL 4 r
def texL (x : Int) : List UInt8 := (if x < 0 then [45] else []) ++ Lib.decDigits (x.natAbs / 10000) ++ fracS (x.natAbs % 10000)
def texS (x : Int) : List UInt8 := if May x then texL x else []
theorem head_len {x : Int} (h : May x) : ((if x < 0 then [45] else []) ++ Lib.decDigits (x.natAbs / 10000) : List UInt8).length ≤ 17 := by
  have h1 := dd_len 15 (x.natAbs / 10000) (by unfold May at h; omega)
  rw [List.length_append]
  split <;> simp <;> omega
theorem itoa_nat (n : Nat) : Lib.itoa (n : Int) = Lib.decDigits n := by
  unfold Lib.itoa
  rw [if_neg (by omega), Int.toNat_natCast]
theorem itoa_neg {n : Nat} (h : 0 < n) : Lib.itoa (-(n : Int)) = 45 :: Lib.decDigits n := by
  unfold Lib.itoa
  rw [if_pos (by omega), Int.natAbs_neg, Int.natAbs_natCast]
theorem four {r : Nat} (h : r < 10000) : Lib.decDigits (10000 + r) = [49, dc (r / 1000), dc (r / 100 % 10), dc (r / 10 % 10), dc (r % 10)] := by
  rw [dd_big (by omega), dd_big (by omega), dd_big (by omega), dd_big (by omega), dd_small (by omega)]
  rw [show (10000 + r) / 10 / 10 / 10 / 10 = 1 by omega, show (10000 + r) / 10 / 10 / 10 % 10 = r / 1000 by omega, show (10000 + r) / 10 / 10 % 10 = r / 100 % 10 by omega, show (10000 + r) / 10 % 10 = r / 10 % 10 by omega, show (10000 + r) % 10 = r % 10 by omega]
  rfl
theorem dc_eq {n : Nat} (h : n < 10) : (dc n == 48) = decide (n = 0) := by
  have : ∀ m : Fin 10, (dc m.val == 48) = decide (m.val = 0) := by decide
  exact this ⟨n, h⟩
theorem trim_eq {r : Nat} (h : r < 10000) (h0 : r ≠ 0) : Lib.trimRightB [dc (r / 1000), dc (r / 100 % 10), dc (r / 10 % 10), dc (r % 10)] 48 = fracL 4 r := by
  have e1 := dc_eq (n := r / 1000) (by omega)
  have e2 := dc_eq (n := r / 100 % 10) (by omega)
  have e3 := dc_eq (n := r / 10 % 10) (by omega)
  have e4 := dc_eq (n := r % 10) (by omega)
  have s1 : fracL 4 r = dc (r / 1000) :: fracL 3 (r % 1000 * 10) := by rw [fracL, if_neg h0]
  have s2 : r % 1000 * 10 ≠ 0 → fracL 3 (r % 1000 * 10) = dc (r / 100 % 10) :: fracL 2 (r % 100 * 100) := fun hh => by
    rw [fracL, if_neg hh, show r % 1000 * 10 / 1000 = r / 100 % 10 by omega, show r % 1000 * 10 % 1000 * 10 = r % 100 * 100 by omega]
  have s3 : r % 100 * 100 ≠ 0 → fracL 2 (r % 100 * 100) = dc (r / 10 % 10) :: fracL 1 (r % 10 * 1000) := fun hh => by
    rw [fracL, if_neg hh, show r % 100 * 100 / 1000 = r / 10 % 10 by omega, show r % 100 * 100 % 1000 * 10 = r % 10 * 1000 by omega]
  have s4 : r % 10 * 1000 ≠ 0 → fracL 1 (r % 10 * 1000) = [dc (r % 10)] := fun hh => by
    rw [fracL, if_neg hh, show r % 10 * 1000 / 1000 = r % 10 by omega]; rfl
  have z : ∀ d, fracL d 0 = [] := fun d => by cases d <;> simp [fracL]
  rw [s1]
  unfold Lib.trimRightB
  simp only [List.reverse_cons, List.reverse_nil, List.nil_append, List.cons_append]
  by_cases h4 : r % 10 = 0
  · rw [List.dropWhile_cons_of_pos (by rw [e4]; exact decide_eq_true h4)]
    by_cases h3 : r / 10 % 10 = 0
    · rw [List.dropWhile_cons_of_pos (by rw [e3]; exact decide_eq_true h3)]
      by_cases h2 : r / 100 % 10 = 0
      · rw [List.dropWhile_cons_of_pos (by rw [e2]; exact decide_eq_true h2), List.dropWhile_cons_of_neg (by rw [e1]; simp; omega), show r % 1000 * 10 = 0 by omega, z]
        rfl
      · rw [List.dropWhile_cons_of_neg (by rw [e2]; simp; omega), s2 (by omega), show r % 100 * 100 = 0 by omega, z]
        rfl
    · rw [List.dropWhile_cons_of_neg (by rw [e3]; simp; omega), s2 (by omega), s3 (by omega), show r % 10 * 1000 = 0 by omega, z]
      rfl
  · rw [List.dropWhile_cons_of_neg (by rw [e4]; simp; omega), s2 (by omega), s3 (by omega), s4 (by omega)]
    rfl
theorem rest_of {x : Int} (h : May x) : x.tmod 10000 = (if x < 0 then -((x.natAbs % 10000 : Nat) : Int) else ((x.natAbs % 10000 : Nat) : Int)) := by
  have t := tdm x (m := 10000) (by decide)
  split <;> omega
def isD (b : UInt8) : Bool := decide (48 ≤ b.toNat) && decide (b.toNat ≤ 57)
def valL : List UInt8 → Nat → Nat
  | [], n => n
  | b :: l, n => valL l (n * 10 + (b.toNat - 48))
theorem valL_ge : ∀ (l : List UInt8) (n : Nat), n ≤ valL l n
  | [], n => Nat.le_refl _
  | b :: l, n => Nat.le_trans (by omega) (valL_ge l _)
def numS (w : List UInt8) : Int × Bool := if w ≠ [] ∧ w.all isD = true ∧ (valL w 0 : Int) ≤ 9223372036854775807 then ((valL w 0 : Int), true) else (0, false)
def minusL (l : List UInt8) : Bool := Lib.hasPrefix l [45]
def bodyL (l : List UInt8) : List UInt8 := Lib.trimPrefix l [45]
/-- Ahead of the first point, behind it, is there one? -/
def cutL : List UInt8 → List UInt8 × List UInt8 × Bool
  | [] => ([], [], false)
  | b :: l => if b = 46 then ([], l, true) else (b :: (cutL l).1, (cutL l).2.1, (cutL l).2.2)
theorem idx_range : ∀ (l : List UInt8) (c : UInt8), -1 ≤ Lib.indexByte l c ∧ Lib.indexByte l c < (l.length : Int)
  | [], c => by unfold Lib.indexByte; simp
  | b :: l, c => by
    have := idx_range l c
    unfold Lib.indexByte
    simp only [List.length_cons]
    split
    · omega
    · split <;> omega
theorem cut_eq (l : List UInt8) : Lib.cut l [46] = cutL l := by
  unfold Lib.cut
  rw [Lib.index_one]
  induction l with
  | nil => rfl
  | cons b l ih =>
    have ei : Lib.indexByte (b :: l) 46 = if (b == 46) = true then 0 else if (Lib.indexByte l 46 == -1) = true then -1 else Lib.indexByte l 46 + 1 := by rw [Lib.indexByte]
    rw [cutL]
    by_cases hb : b = 46
    · rw [if_pos (by simp [hb])] at ei
      rw [ei, if_pos (by decide), if_pos hb]
      rfl
    · rw [if_neg (by simp [hb])] at ei
      have hr := idx_range l 46
      rw [if_neg hb]
      generalize Lib.indexByte (b :: l) 46 = i at *
      generalize Lib.indexByte l 46 = j at *
      by_cases hj : j = -1
      · subst hj
        rw [if_pos (by decide)] at ei
        subst ei
        rw [if_neg (by decide)] at ih
        rw [if_neg (by decide), ← ih]
      · obtain ⟨n, rfl⟩ : ∃ n : Nat, j = n := ⟨j.toNat, by omega⟩
        rw [if_neg (by simp)] at ei
        subst ei
        rw [if_pos (by omega)] at ih
        rw [if_pos (by omega), ← ih, show ((n : Int) + 1).toNat = n + 1 by omega, Int.toNat_natCast]
        simp
/-- Ten-thousandths. -/
def totL (c : List UInt8 × List UInt8 × Bool) : Nat := valL c.1 0 * 10000 + valL c.2.1 0 * 10 ^ (4 - c.2.1.length)
def rightL (c : List UInt8 × List UInt8 × Bool) : Prop := c.1 ≠ [] ∧ c.1.all isD = true ∧ (c.2.2 = true → c.2.1 ≠ [] ∧ c.2.1.all isD = true ∧ c.2.1.length ≤ 4) ∧ (totL c : Int) ≤ 9223372036854775807
instance (c : List UInt8 × List UInt8 × Bool) : Decidable (rightL c) := by unfold rightL; infer_instance
def readL (l : List UInt8) : Int × Bool :=
  if l.length ≤ 40 ∧ rightL (cutL (bodyL l)) then (if minusL l = true then -(totL (cutL (bodyL l)) : Int) else (totL (cutL (bodyL l)) : Int), true) else (0, false)
theorem cut_len : ∀ l : List UInt8, (cutL l).1.length ≤ l.length ∧ (cutL l).2.1.length ≤ l.length ∧ ((cutL l).2.2 = false → (cutL l).2.1 = [])
  | [] => ⟨Nat.le_refl _, Nat.le_refl _, fun _ => rfl⟩
  | b :: l => by
    obtain ⟨h1, h2, h3⟩ := cut_len l
    unfold cutL
    by_cases hb : b = 46
    · rw [if_pos hb]
      exact ⟨Nat.zero_le _, by simp, fun h => by cases h⟩
    · rw [if_neg hb]
      exact ⟨by simp; omega, by simp; omega, h3⟩
theorem pow_next {e : Nat} : 10 ^ (e + 1) = 10 ^ e * 10 := Nat.pow_succ ..
theorem val_lt : ∀ (l : List UInt8) (n : Nat), l.all isD = true → valL l n + 1 ≤ (n + 1) * 10 ^ l.length
  | [], n, _ => by simp [valL]
  | b :: l, n, h => by
    rw [List.all_cons, Bool.and_eq_true] at h
    have hb : b.toNat - 48 ≤ 9 := by
      have := h.1
      unfold isD at this
      simp at this
      omega
    have := val_lt l (n * 10 + (b.toNat - 48)) h.2
    rw [valL, List.length_cons, Nat.pow_succ]
    refine Nat.le_trans this ?_
    rw [Nat.mul_comm (10 ^ l.length) 10, ← Nat.mul_assoc]
    exact Nat.mul_le_mul_right _ (by omega)
theorem body_len (l : List UInt8) : (bodyL l).length ≤ l.length := by
  unfold bodyL Lib.trimPrefix
  split
  · rw [List.length_drop]; omega
  · exact Nat.le_refl _
theorem numS_yes {w : List UInt8} (h : w ≠ [] ∧ w.all isD = true ∧ (valL w 0 : Int) ≤ 9223372036854775807) : numS w = ((valL w 0 : Int), true) := if_pos h
theorem numS_no {w : List UInt8} (h : ¬ (w ≠ [] ∧ w.all isD = true ∧ (valL w 0 : Int) ≤ 9223372036854775807)) : numS w = (0, false) := if_neg h
theorem dc_nat {n : Nat} (h : n < 10) : (dc n).toNat = 48 + n := by
  have : ∀ m : Fin 10, (dc m.val).toNat = 48 + m.val := by decide
  exact this ⟨n, h⟩
theorem dc_isD {n : Nat} (h : n < 10) : isD (dc n) = true := by
  unfold isD
  rw [dc_nat h, decide_eq_true (by omega), decide_eq_true (by omega)]; rfl
theorem valL_append : ∀ (l m : List UInt8) (n : Nat), valL (l ++ m) n = valL m (valL l n)
  | [], m, n => rfl
  | b :: l, m, n => by rw [List.cons_append, valL, valL, valL_append l m]
theorem dd_ind (P : Nat → Prop) (h0 : ∀ n, n < 10 → P n) (h1 : ∀ n, ¬ n < 10 → P (n / 10) → P n) : ∀ n, P n := by
  intro n
  induction n using Nat.strongRecOn with
  | _ n ih =>
    by_cases h : n < 10
    · exact h0 n h
    · exact h1 n h (ih (n / 10) (by omega))
theorem dd_val (n : Nat) : valL (Lib.decDigits n) 0 = n := by
  refine dd_ind (fun n => valL (Lib.decDigits n) 0 = n) (fun n h => ?_) (fun n h ih => ?_) n
  · rw [dd_small h, valL, valL, dc_nat h]; omega
  · rw [dd_big h, valL_append, ih, valL, valL, dc_nat (Nat.mod_lt _ (by decide))]; omega
theorem dd_all (n : Nat) : (Lib.decDigits n).all isD = true := by
  refine dd_ind (fun n => (Lib.decDigits n).all isD = true) (fun n h => ?_) (fun n h ih => ?_) n
  · rw [dd_small h, List.all_cons, dc_isD h]; rfl
  · rw [dd_big h, List.all_append, ih, List.all_cons, dc_isD (Nat.mod_lt _ (by decide))]; rfl
theorem dd_ne (n : Nat) : Lib.decDigits n ≠ [] := by
  by_cases h : n < 10
  · rw [dd_small h]; simp
  · rw [dd_big h]; simp
theorem frac_all (d : Nat) : ∀ r, r < 10000 → (fracL d r).all isD = true := by
  induction d with
  | zero => intro r _; rfl
  | succ d ih =>
    intro r h
    rw [fracL]
    split
    · rfl
    · rw [List.all_cons, dc_isD (by omega), ih _ (by omega)]; rfl
theorem frac_len (d : Nat) : ∀ r, (fracL d r).length ≤ d := by
  induction d with
  | zero => intro r; exact Nat.le_refl _
  | succ d ih =>
    intro r
    rw [fracL]
    split
    · exact Nat.zero_le _
    · have := ih (r % 1000 * 10); rw [List.length_cons]; omega
theorem frac_val (d : Nat) : ∀ r m, d ≤ 4 → r < 10000 → r % 10 ^ (4 - d) = 0 → valL (fracL d r) m * 10 ^ (d - (fracL d r).length) = m * 10 ^ d + r / 10 ^ (4 - d) := by
  induction d with
  | zero =>
    intro r m _ h hz
    obtain rfl : r = 0 := by omega
    simp [fracL, valL]
  | succ d ih =>
    intro r m hd h hz
    rw [fracL]
    by_cases h0 : r = 0
    · subst h0
      rw [if_pos rfl]
      simp [valL]
    · rw [if_neg h0, valL, dc_nat (show r / 1000 < 10 by omega), List.length_cons]
      have hz2 : r % 1000 * 10 % 10 ^ (4 - d) = 0 := by
        have hd' : d = 0 ∨ d = 1 ∨ d = 2 ∨ d = 3 := by omega
        rcases hd' with rfl | rfl | rfl | rfl <;> simp at hz ⊢ <;> omega
      have := ih (r % 1000 * 10) (m * 10 + (48 + r / 1000 - 48)) (by omega) (by omega) hz2
      rw [show d + 1 - ((fracL d (r % 1000 * 10)).length + 1) = d - (fracL d (r % 1000 * 10)).length by omega, this]
      have hd' : d = 0 ∨ d = 1 ∨ d = 2 ∨ d = 3 := by omega
      rcases hd' with rfl | rfl | rfl | rfl <;> simp at hz ⊢ <;> omega
/-- Digits ahead of the point, and behind it. -/
def strD (w f : List UInt8) : List UInt8 := w ++ (if f = [] then [] else 46 :: f)
theorem isD_ne {b : UInt8} (h : isD b = true) : b ≠ 46 ∧ b ≠ 45 := by
  constructor <;> (intro e; subst e; revert h; decide)
theorem cut_str {w : List UInt8} (h : w.all isD = true) (f : List UInt8) : cutL (strD w f) = (w, f, f != []) := by
  unfold strD
  induction w with
  | nil =>
    by_cases hf : f = []
    · subst hf; rfl
    · rw [if_neg hf, List.nil_append, cutL, if_pos rfl, show (f != []) = true by simpa using hf]
  | cons b w ih =>
    rw [List.all_cons, Bool.and_eq_true] at h
    rw [List.cons_append, cutL, if_neg (isD_ne h.1).1, ih h.2]
theorem body_str {w : List UInt8} (h : w.all isD = true) (h0 : w ≠ []) (f : List UInt8) : minusL (strD w f) = false ∧ bodyL (strD w f) = strD w f := by
  rcases w with _ | ⟨b, w⟩
  · exact absurd rfl h0
  · rw [List.all_cons, Bool.and_eq_true] at h
    have hb : (b == (45 : UInt8)) = false := beq_eq_false_iff_ne.mpr (isD_ne h.1).2
    have hm : Lib.hasPrefix (strD (b :: w) f) [45] = false := by
      unfold strD
      rw [List.cons_append]
      simp [Lib.hasPrefix, List.isPrefixOf, Ne.symm (isD_ne h.1).2]
    refine ⟨hm, ?_⟩
    unfold bodyL Lib.trimPrefix
    rw [hm]; rfl
theorem body_minus (l : List UInt8) : minusL (45 :: l) = true ∧ bodyL (45 :: l) = l := by
  have hm : Lib.hasPrefix ((45 : UInt8) :: l) [45] = true := by simp [Lib.hasPrefix]
  refine ⟨hm, ?_⟩
  unfold bodyL Lib.trimPrefix
  rw [hm]; rfl
theorem right_str {w f : List UInt8} (h : w.all isD = true) (h0 : w ≠ []) (hf : f.all isD = true) (hl : f.length ≤ 4) {t : Nat} (ht : valL w 0 * 10000 + valL f 0 * 10 ^ (4 - f.length) = t) (hm : (t : Int) ≤ 9223372036854775807) :
    rightL (cutL (strD w f)) ∧ totL (cutL (strD w f)) = t := by
  rw [cut_str h]
  have e : totL (w, f, f != []) = t := ht
  refine ⟨⟨h0, h, fun hh => ⟨by simpa using hh, hf, hl⟩, by rw [e]; exact hm⟩, e⟩
theorem read_str {w f : List UInt8} (h : w.all isD = true) (h0 : w ≠ []) (hf : f.all isD = true) (hl : f.length ≤ 4) (hw : w.length ≤ 30) {t : Nat} (ht : valL w 0 * 10000 + valL f 0 * 10 ^ (4 - f.length) = t) (hm : (t : Int) ≤ 9223372036854775807) :
    readL (strD w f) = ((t : Int), true) ∧ readL (45 :: strD w f) = (-(t : Int), true) := by
  obtain ⟨hr, he⟩ := right_str h h0 hf hl ht hm
  have hs : (strD w f).length ≤ 35 := by
    unfold strD
    rw [List.length_append]
    split
    · simp; omega
    · rw [List.length_cons]; omega
  obtain ⟨b1, b2⟩ := body_str h h0 f
  obtain ⟨c1, c2⟩ := body_minus (strD w f)
  constructor
  · unfold readL
    rw [b2, b1, if_pos ⟨by omega, hr⟩, he]; rfl
  · unfold readL
    rw [c2, c1, if_pos ⟨by rw [List.length_cons]; omega, hr⟩, he]; rfl
theorem frac_nil {r : Nat} : (fracL 4 r = []) ↔ r = 0 := by
  rw [fracL]
  split <;> simp_all
theorem tex_str (x : Int) : texL x = (if x < 0 then [45] else []) ++ strD (Lib.decDigits (x.natAbs / 10000)) (fracL 4 (x.natAbs % 10000)) := by
  unfold texL strD fracS
  rw [List.append_assoc]
  by_cases h : x.natAbs % 10000 = 0
  · rw [if_pos h, if_pos (frac_nil.2 h)]
  · rw [if_neg h, if_neg (fun hh => h (frac_nil.1 hh))]
theorem tex_tot (n : Nat) : valL (Lib.decDigits (n / 10000)) 0 * 10000 + valL (fracL 4 (n % 10000)) 0 * 10 ^ (4 - (fracL 4 (n % 10000)).length) = n := by
  rw [dd_val, frac_val 4 (n % 10000) 0 (by decide) (by omega) (by simp; omega)]
  simp
  omega
theorem dd_len16 {x : Int} (h : May x) (hx : I64 x) : (Lib.decDigits (x.natAbs / 10000)).length ≤ 15 := dd_len 14 _ (by unfold May at h; unfold I64 at hx; omega)
theorem read_tex {x : Int} (h : May x) (hx : I64 x) : readL (texL x) = (x, true) := by
  have hl := dd_len16 h hx
  have hm : ((x.natAbs : Nat) : Int) ≤ 9223372036854775807 := by unfold May at h; unfold I64 at hx; omega
  obtain ⟨h1, h2⟩ := read_str (dd_all _) (dd_ne _) (frac_all 4 (x.natAbs % 10000) (by omega)) (frac_len 4 _) (by omega) (tex_tot x.natAbs) hm
  rw [tex_str]
  by_cases h0 : x < 0
  · rw [if_pos h0, List.singleton_append, h2, show -((x.natAbs : Nat) : Int) = x by omega]
  · rw [if_neg h0, List.nil_append, h1, show ((x.natAbs : Nat) : Int) = x by omega]
theorem read_texS {x : Int} (hx : I64 x) : readL (texS x) = (if May x then (x, true) else (0, false)) := by
  unfold texS
  split
  · exact read_tex (by assumption) hx
  · decide
def parseL (l : List UInt8) : Int × Bool := if (readL l).2 = true ∧ texS (readL l).1 = l then ((readL l).1, true) else (0, false)
theorem read_ok {l : List UInt8} : I64 (readL l).1 ∧ ((readL l).2 = true → May (readL l).1) := by
  unfold readL
  by_cases hh : l.length ≤ 40 ∧ rightL (cutL (bodyL l))
  · rw [if_pos hh]
    have := hh.2.2.2.2
    generalize totL (cutL (bodyL l)) = t at *
    unfold I64 May
    dsimp only
    split <;> omega
  · rw [if_neg hh]
    unfold I64
    exact ⟨by dsimp only; omega, fun h => by cases h⟩
theorem parse_texS {x : Int} (hx : I64 x) : parseL (texS x) = (if May x then (x, true) else (0, false)) := by
  unfold parseL
  rw [read_texS hx]
  by_cases h : May x
  · rw [if_pos h, if_pos ⟨rfl, rfl⟩]
  · rw [if_neg h, if_neg (fun hh => by cases hh.1)]
end Go.Den
