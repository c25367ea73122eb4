/- Texts that CanonTells rests on. -/
import Derived.Test.YtkhbkbkambflbaaGreatDoorDenV
import Derived.Lib.IndexBytes
import Derived.Lib.IndexMore
import Derived.Lib.ItoaNum
import Derived.Laws.Strings
import Derived.Laws.BitsLemmas
import Derived.Lib.Fields
import Derived.Lib.TrimByte
import Derived.Test.YtkhbkbkambflbaaGreatDoorETx0
import Derived.Test.YtkhbkbkambflbaaGreatDoorETx1
import Derived.Test.YtkhbkbkambflbaaGreatDoorETx10
import Derived.Test.YtkhbkbkambflbaaGreatDoorETx2
import Derived.Test.YtkhbkbkambflbaaGreatDoorETx3
import Derived.Test.YtkhbkbkambflbaaGreatDoorETx4
import Derived.Test.YtkhbkbkambflbaaGreatDoorETx5
import Derived.Test.YtkhbkbkambflbaaGreatDoorETx6
import Derived.Test.YtkhbkbkambflbaaGreatDoorETx7
import Derived.Test.YtkhbkbkambflbaaGreatDoorETx8
import Derived.Test.YtkhbkbkambflbaaGreatDoorETx9
import Derived.Lib.Replace
import Derived.Test.YtkhbkbkambflbaaGreatDoorDenA
/- Decimals as texts: the plain part. -/
namespace Go.Den
open Go Go.RowKit Go.Proofs
set_option linter.unusedVariables false
set_option linter.unusedSimpArgs false
theorem u64w (x : Int) : IntKind.u64.wrap x = x % 18446744073709551616 := by
 simp [IntKind.wrap, IntKind.bits, IntKind.signed]
theorem u64i {x : Int} (h0 : 0 ≤ x) (h : x < 18446744073709551616) : IntKind.u64.wrap x = x := by
 rw [u64w]; omega
theorem and32 {a : Int} (h0 : 0 ≤ a) (h1 : a < 18446744073709551616) : Go.bits .and .u64 a 4294967295 = a % 4294967296 :=
 bits_mask .u64 64 (by decide) (fun n h0 h1 => u64i h0 (by simpa using h1)) 32 (by decide) a h0 (by simpa using h1)
theorem prodB {x y : Int} (hx0 : 0 ≤ x) (hx : x ≤ 4294967295) (hy0 : 0 ≤ y) (hy : y ≤ 4294967295) : 0 ≤ x * y ∧ x * y ≤ 18446744065119617025 :=
 ⟨Int.mul_nonneg hx0 hy0, Int.le_trans (Int.mul_le_mul hx hy hy0 (by decide)) (by decide)⟩
def B (l : List UInt8) : ByteArray := ⟨l.toArray⟩
theorem B_of (s : ByteArray) : ∃ l, s = B l := ⟨s.data.toList, by rcases s with ⟨⟨l⟩⟩; rfl⟩
theorem B_data (l : List UInt8) : (B l).data.toList = l := rfl
theorem B_size (l : List UInt8) : (B l).size = l.length := rfl
theorem B_append (l m : List UInt8) : B l ++ B m = B (l ++ m) := by
 apply ByteArray.ext
 simp [B]
theorem B_toList (l : List UInt8) : (B l).toList = l := by
 exact ByteArray.toList_eq _
theorem B_extract (l : List UInt8) (i j : Nat) : (B l).extract i j = B ((l.drop i).take (j - i)) := by
 apply ByteArray.ext
 simp [B]
theorem B_bt {l : List UInt8} {i : Nat} (h : i < l.length) : bt (B l) (i : Int) = (l[i].toNat : Int) := by
 unfold bt
 rw [dif_pos (show ((i : Int)).toNat < (B l).size by rw [Int.toNat_natCast]; exact h)]
 rfl
def May (x : Int) : Prop := -9223372036854775808 < x ∧ x ≤ 9223372036854775807
instance (x : Int) : Decidable (May x) := by unfold May; infer_instance
/-- The sign of what three signs give. -/
def sg (a b c q : Int) : Int := if ((decide (a < 0) != decide (b < 0)) != decide (c < 0)) = true then -q else q
def I64 (x : Int) : Prop := -9223372036854775808 ≤ x ∧ x ≤ 9223372036854775807
theorem May.i {x : Int} (h : May x) : I64 x := by unfold May at h; unfold I64; omega
def addS (a b : Int) : Int × Bool := if May a ∧ May b ∧ May (a + b) then (a + b, true) else (0, false)
def negS (a : Int) : Int × Bool := if May a then (-a, true) else (0, false)
theorem addS_yes {a b : Int} (h : May a ∧ May b ∧ May (a + b)) : addS a b = (a + b, true) := if_pos h
theorem addS_no {a b : Int} (h : ¬ May (a + b)) : addS a b = (0, false) := if_neg (fun hh => h hh.2.2)
theorem tdm (a : Int) {m : Int} (hm : 0 < m) : a = a.tdiv m * m + a.tmod m ∧ (0 ≤ a → 0 ≤ a.tmod m ∧ a.tmod m < m) ∧ (a ≤ 0 → -m < a.tmod m ∧ a.tmod m ≤ 0) := by
 refine ⟨(Int.tdiv_mul_add_tmod a m).symm, fun h => ⟨Int.tmod_nonneg _ h, Int.tmod_lt_of_pos _ hm⟩, fun h => ?_⟩
 have h1 := Int.tmod_nonneg m (a := -a) (by omega)
 have h2 := Int.tmod_lt_of_pos (-a) hm
 rw [Int.neg_tmod] at h1 h2
 omega
def mulS (a b : Int) : Int × Bool := if May a ∧ May b ∧ May (a * b) then (a * b, true) else (0, false)
theorem mulS_yes {a b : Int} (h : May a ∧ May b ∧ May (a * b)) : mulS a b = (a * b, true) := if_pos h
theorem mulS_no {a b : Int} (h : ¬ May (a * b)) : mulS a b = (0, false) := if_neg (fun hh => h hh.2.2)
theorem mul64_math {a b : Int} (ha0 : 0 ≤ a) (ha : a < 18446744073709551616) (hb0 : 0 ≤ b) (hb : b < 18446744073709551616) :
  ∃ p11 p10 p01 p00 : Int, p11 = (a / 4294967296) * (b / 4294967296) ∧ p10 = (a / 4294967296) * (b % 4294967296) ∧ p01 = (a % 4294967296) * (b / 4294967296) ∧ p00 = (a % 4294967296) * (b % 4294967296)
   ∧ (0 ≤ p11 ∧ p11 ≤ 18446744065119617025) ∧ (0 ≤ p10 ∧ p10 ≤ 18446744065119617025) ∧ (0 ≤ p01 ∧ p01 ≤ 18446744065119617025) ∧ (0 ≤ p00 ∧ p00 ≤ 18446744065119617025)
   ∧ a * b = p11 * 18446744073709551616 + (p10 + p01) * 4294967296 + p00 := by
 refine ⟨_, _, _, _, rfl, rfl, rfl, rfl, prodB (by omega) (by omega) (by omega) (by omega), prodB (by omega) (by omega) (by omega) (by omega), prodB (by omega) (by omega) (by omega) (by omega), prodB (by omega) (by omega) (by omega) (by omega), ?_⟩
 have ea : a = a / 4294967296 * 4294967296 + a % 4294967296 := by omega
 have eb : b = b / 4294967296 * 4294967296 + b % 4294967296 := by omega
 generalize a / 4294967296 = x1 at *
 generalize a % 4294967296 = x0 at *
 generalize b / 4294967296 = y1 at *
 generalize b % 4294967296 = y0 at *
 subst ea eb
 grind

def dc (n : Nat) : UInt8 := UInt8.ofNat (48 + n)
theorem dd_small {n : Nat} (h : n < 10) : Lib.decDigits n = [dc n] := by rw [Lib.decDigits, dif_pos h]; rfl
theorem dd_big {n : Nat} (h : ¬ n < 10) : Lib.decDigits n = Lib.decDigits (n / 10) ++ [dc (n % 10)] := by rw [Lib.decDigits, dif_neg h]; rfl
/-- The digits ahead of the last one. -/
def dg (n : Nat) : List UInt8 := if n = 0 then [] else Lib.decDigits n
theorem dg_step (n : Nat) : dg (n / 10) ++ [dc (n % 10)] = Lib.decDigits n := by
 by_cases h : n < 10
 ·rw [dd_small h, dg, if_pos (by omega), List.nil_append, Nat.mod_eq_of_lt h]
 ·rw [dd_big h, dg, if_neg (by omega)]
theorem dd_len (d : Nat) : ∀ n, n < 10 ^ (d + 1) → (Lib.decDigits n).length ≤ d + 1 := by
 induction d with
 | zero => intro n h; rw [dd_small (by simpa using h)]; simp
 | succ d ih =>
  intro n h
  by_cases h1 : n < 10
  ·rw [dd_small h1]; simp
  ·rw [dd_big h1, List.length_append]
   have := ih (n / 10) (by rw [Nat.pow_succ] at h; omega)
   simp
   omega
/-- The parts behind the point: no nought at the end. -/
def fracL : Nat → Nat → List UInt8
 | 0, _ => []
 | d + 1, r => if r = 0 then [] else dc (r / 1000) :: fracL d (r % 1000 * 10)
def fracS (r : Nat) : List UInt8 := if r = 0 then [] else 46 :: fracL 4 r
def texL (x : Int) : List UInt8 := (if x < 0 then [45] else []) ++ Lib.decDigits (x.natAbs / 10000) ++ fracS (x.natAbs % 10000)
def texS (x : Int) : List UInt8 := if May x then texL x else []
theorem head_len {x : Int} (h : May x) : ((if x < 0 then [45] else []) ++ Lib.decDigits (x.natAbs / 10000) : List UInt8).length ≤ 17 := by
 have h1 := dd_len 15 (x.natAbs / 10000) (by unfold May at h; omega)
 rw [List.length_append]
 split <;> simp <;> omega
theorem itoa_nat (n : Nat) : Lib.itoa (n : Int) = Lib.decDigits n := by
 unfold Lib.itoa
 rw [if_neg (by omega), Int.toNat_natCast]
theorem itoa_neg {n : Nat} (h : 0 < n) : Lib.itoa (-(n : Int)) = 45 :: Lib.decDigits n := by
 unfold Lib.itoa
 rw [if_pos (by omega), Int.natAbs_neg, Int.natAbs_natCast]
theorem four {r : Nat} (h : r < 10000) : Lib.decDigits (10000 + r) = [49, dc (r / 1000), dc (r / 100 % 10), dc (r / 10 % 10), dc (r % 10)] := by
 rw [dd_big (by omega), dd_big (by omega), dd_big (by omega), dd_big (by omega), dd_small (by omega)]
 rw [show (10000 + r) / 10 / 10 / 10 / 10 = 1 by omega, show (10000 + r) / 10 / 10 / 10 % 10 = r / 1000 by omega, show (10000 + r) / 10 / 10 % 10 = r / 100 % 10 by omega, show (10000 + r) / 10 % 10 = r / 10 % 10 by omega, show (10000 + r) % 10 = r % 10 by omega]
 rfl
theorem dc_eq {n : Nat} (h : n < 10) : (dc n == 48) = decide (n = 0) := by
 have : ∀ m : Fin 10, (dc m.val == 48) = decide (m.val = 0) := by decide
 exact this ⟨n, h⟩
theorem trim_eq {r : Nat} (h : r < 10000) (h0 : r ≠ 0) : Lib.trimRightB [dc (r / 1000), dc (r / 100 % 10), dc (r / 10 % 10), dc (r % 10)] 48 = fracL 4 r := by
 have e1 := dc_eq (n := r / 1000) (by omega)
 have e2 := dc_eq (n := r / 100 % 10) (by omega)
 have e3 := dc_eq (n := r / 10 % 10) (by omega)
 have e4 := dc_eq (n := r % 10) (by omega)
 have s1 : fracL 4 r = dc (r / 1000) :: fracL 3 (r % 1000 * 10) := by rw [fracL, if_neg h0]
 have s2 : r % 1000 * 10 ≠ 0 → fracL 3 (r % 1000 * 10) = dc (r / 100 % 10) :: fracL 2 (r % 100 * 100) := fun hh => by
  rw [fracL, if_neg hh, show r % 1000 * 10 / 1000 = r / 100 % 10 by omega, show r % 1000 * 10 % 1000 * 10 = r % 100 * 100 by omega]
 have s3 : r % 100 * 100 ≠ 0 → fracL 2 (r % 100 * 100) = dc (r / 10 % 10) :: fracL 1 (r % 10 * 1000) := fun hh => by
  rw [fracL, if_neg hh, show r % 100 * 100 / 1000 = r / 10 % 10 by omega, show r % 100 * 100 % 1000 * 10 = r % 10 * 1000 by omega]
 have s4 : r % 10 * 1000 ≠ 0 → fracL 1 (r % 10 * 1000) = [dc (r % 10)] := fun hh => by
  rw [fracL, if_neg hh, show r % 10 * 1000 / 1000 = r % 10 by omega]; rfl
 have z : ∀ d, fracL d 0 = [] := fun d => by cases d <;> simp [fracL]
 rw [s1]
 unfold Lib.trimRightB
 simp only [List.reverse_cons, List.reverse_nil, List.nil_append, List.cons_append]
 by_cases h4 : r % 10 = 0
 ·rw [List.dropWhile_cons_of_pos (by rw [e4]; exact decide_eq_true h4)]
  by_cases h3 : r / 10 % 10 = 0
  ·rw [List.dropWhile_cons_of_pos (by rw [e3]; exact decide_eq_true h3)]
   by_cases h2 : r / 100 % 10 = 0
   ·rw [List.dropWhile_cons_of_pos (by rw [e2]; exact decide_eq_true h2), List.dropWhile_cons_of_neg (by rw [e1]; simp; omega), show r % 1000 * 10 = 0 by omega, z]
    rfl
   ·rw [List.dropWhile_cons_of_neg (by rw [e2]; simp; omega), s2 (by omega), show r % 100 * 100 = 0 by omega, z]
    rfl
  ·rw [List.dropWhile_cons_of_neg (by rw [e3]; simp; omega), s2 (by omega), s3 (by omega), show r % 10 * 1000 = 0 by omega, z]
   rfl
 ·rw [List.dropWhile_cons_of_neg (by rw [e4]; simp; omega), s2 (by omega), s3 (by omega), s4 (by omega)]
  rfl
theorem rest_of {x : Int} (h : May x) : x.tmod 10000 = (if x < 0 then -((x.natAbs % 10000 : Nat) : Int) else ((x.natAbs % 10000 : Nat) : Int)) := by
 have t := tdm x (m := 10000) (by decide)
 split <;> omega
def isD (b : UInt8) : Bool := decide (48 ≤ b.toNat) && decide (b.toNat ≤ 57)
def valL : List UInt8 → Nat → Nat
 | [], n => n
 | b :: l, n => valL l (n * 10 + (b.toNat - 48))
theorem valL_ge : ∀ (l : List UInt8) (n : Nat), n ≤ valL l n
 | [], n => Nat.le_refl _
 | b :: l, n => Nat.le_trans (by omega) (valL_ge l _)
def numS (w : List UInt8) : Int × Bool := if w ≠ [] ∧ w.all isD = true ∧ (valL w 0 : Int) ≤ 9223372036854775807 then ((valL w 0 : Int), true) else (0, false)
def minusL (l : List UInt8) : Bool := Lib.hasPrefix l [45]
def bodyL (l : List UInt8) : List UInt8 := Lib.trimPrefix l [45]
/-- Ahead of the first point, behind it, is there one? -/
def cutL : List UInt8 → List UInt8 × List UInt8 × Bool
 | [] => ([], [], false)
 | b :: l => if b = 46 then ([], l, true) else (b :: (cutL l).1, (cutL l).2.1, (cutL l).2.2)
theorem idx_range : ∀ (l : List UInt8) (c : UInt8), -1 ≤ Lib.indexByte l c ∧ Lib.indexByte l c < (l.length : Int)
 | [], c => by unfold Lib.indexByte; simp
 | b :: l, c => by
  have := idx_range l c
  unfold Lib.indexByte
  simp only [List.length_cons]
  split
  ·omega
  ·split <;> omega
theorem cut_eq (l : List UInt8) : Lib.cut l [46] = cutL l := by
 unfold Lib.cut
 rw [Lib.index_one]
 induction l with
 | nil => rfl
 | cons b l ih =>
  have ei : Lib.indexByte (b :: l) 46 = if (b == 46) = true then 0 else if (Lib.indexByte l 46 == -1) = true then -1 else Lib.indexByte l 46 + 1 := by rw [Lib.indexByte]
  rw [cutL]
  by_cases hb : b = 46
  ·rw [if_pos (by simp [hb])] at ei
   rw [ei, if_pos (by decide), if_pos hb]
   rfl
  ·rw [if_neg (by simp [hb])] at ei
   have hr := idx_range l 46
   rw [if_neg hb]
   generalize Lib.indexByte (b :: l) 46 = i at *
   generalize Lib.indexByte l 46 = j at *
   by_cases hj : j = -1
   ·subst hj
    rw [if_pos (by decide)] at ei
    subst ei
    rw [if_neg (by decide)] at ih
    rw [if_neg (by decide), ← ih]
   ·obtain ⟨n, rfl⟩ : ∃ n : Nat, j = n := ⟨j.toNat, by omega⟩
    rw [if_neg (by simp)] at ei
    subst ei
    rw [if_pos (by omega)] at ih
    rw [if_pos (by omega), ← ih, show ((n : Int) + 1).toNat = n + 1 by omega, Int.toNat_natCast]
    simp
/-- Ten-thousandths. -/
def totL (c : List UInt8 × List UInt8 × Bool) : Nat := valL c.1 0 * 10000 + valL c.2.1 0 * 10 ^ (4 - c.2.1.length)
def rightL (c : List UInt8 × List UInt8 × Bool) : Prop := c.1 ≠ [] ∧ c.1.all isD = true ∧ (c.2.2 = true → c.2.1 ≠ [] ∧ c.2.1.all isD = true ∧ c.2.1.length ≤ 4) ∧ (totL c : Int) ≤ 9223372036854775807
instance (c : List UInt8 × List UInt8 × Bool) : Decidable (rightL c) := by unfold rightL; infer_instance
def readL (l : List UInt8) : Int × Bool :=
 if l.length ≤ 40 ∧ rightL (cutL (bodyL l)) then (if minusL l = true then -(totL (cutL (bodyL l)) : Int) else (totL (cutL (bodyL l)) : Int), true) else (0, false)
theorem cut_len : ∀ l : List UInt8, (cutL l).1.length ≤ l.length ∧ (cutL l).2.1.length ≤ l.length ∧ ((cutL l).2.2 = false → (cutL l).2.1 = [])
 | [] => ⟨Nat.le_refl _, Nat.le_refl _, fun _ => rfl⟩
 | b :: l => by
  obtain ⟨h1, h2, h3⟩ := cut_len l
  unfold cutL
  by_cases hb : b = 46
  ·rw [if_pos hb]
   exact ⟨Nat.zero_le _, by simp, fun h => by cases h⟩
  ·rw [if_neg hb]
   exact ⟨by simp; omega, by simp; omega, h3⟩
theorem pow_next {e : Nat} : 10 ^ (e + 1) = 10 ^ e * 10 := Nat.pow_succ ..
theorem val_lt : ∀ (l : List UInt8) (n : Nat), l.all isD = true → valL l n + 1 ≤ (n + 1) * 10 ^ l.length
 | [], n, _ => by simp [valL]
 | b :: l, n, h => by
  rw [List.all_cons, Bool.and_eq_true] at h
  have hb : b.toNat - 48 ≤ 9 := by
   have := h.1
   unfold isD at this
   simp at this
   omega
  have := val_lt l (n * 10 + (b.toNat - 48)) h.2
  rw [valL, List.length_cons, Nat.pow_succ]
  refine Nat.le_trans this ?_
  rw [Nat.mul_comm (10 ^ l.length) 10, ← Nat.mul_assoc]
  exact Nat.mul_le_mul_right _ (by omega)
theorem body_len (l : List UInt8) : (bodyL l).length ≤ l.length := by
 unfold bodyL Lib.trimPrefix
 split
 ·rw [List.length_drop]; omega
 ·exact Nat.le_refl _
theorem numS_yes {w : List UInt8} (h : w ≠ [] ∧ w.all isD = true ∧ (valL w 0 : Int) ≤ 9223372036854775807) : numS w = ((valL w 0 : Int), true) := if_pos h
theorem numS_no {w : List UInt8} (h : ¬ (w ≠ [] ∧ w.all isD = true ∧ (valL w 0 : Int) ≤ 9223372036854775807)) : numS w = (0, false) := if_neg h
theorem dc_nat {n : Nat} (h : n < 10) : (dc n).toNat = 48 + n := by
 have : ∀ m : Fin 10, (dc m.val).toNat = 48 + m.val := by decide
 exact this ⟨n, h⟩
theorem dc_isD {n : Nat} (h : n < 10) : isD (dc n) = true := by
 unfold isD
 rw [dc_nat h, decide_eq_true (by omega), decide_eq_true (by omega)]; rfl
theorem valL_append : ∀ (l m : List UInt8) (n : Nat), valL (l ++ m) n = valL m (valL l n)
 | [], m, n => rfl
 | b :: l, m, n => by rw [List.cons_append, valL, valL, valL_append l m]
theorem dd_ind (P : Nat → Prop) (h0 : ∀ n, n < 10 → P n) (h1 : ∀ n, ¬ n < 10 → P (n / 10) → P n) : ∀ n, P n := by
 intro n
 induction n using Nat.strongRecOn with
 | _ n ih =>
  by_cases h : n < 10
  ·exact h0 n h
  ·exact h1 n h (ih (n / 10) (by omega))
theorem dd_val (n : Nat) : valL (Lib.decDigits n) 0 = n := by
 refine dd_ind (fun n => valL (Lib.decDigits n) 0 = n) (fun n h => ?_) (fun n h ih => ?_) n
 ·rw [dd_small h, valL, valL, dc_nat h]; omega
 ·rw [dd_big h, valL_append, ih, valL, valL, dc_nat (Nat.mod_lt _ (by decide))]; omega
theorem dd_all (n : Nat) : (Lib.decDigits n).all isD = true := by
 refine dd_ind (fun n => (Lib.decDigits n).all isD = true) (fun n h => ?_) (fun n h ih => ?_) n
 ·rw [dd_small h, List.all_cons, dc_isD h]; rfl
 ·rw [dd_big h, List.all_append, ih, List.all_cons, dc_isD (Nat.mod_lt _ (by decide))]; rfl
theorem dd_ne (n : Nat) : Lib.decDigits n ≠ [] := by
 by_cases h : n < 10
 ·rw [dd_small h]; simp
 ·rw [dd_big h]; simp
theorem frac_all (d : Nat) : ∀ r, r < 10000 → (fracL d r).all isD = true := by
 induction d with
 | zero => intro r _; rfl
 | succ d ih =>
  intro r h
  rw [fracL]
  split
  ·rfl
  ·rw [List.all_cons, dc_isD (by omega), ih _ (by omega)]; rfl
theorem frac_len (d : Nat) : ∀ r, (fracL d r).length ≤ d := by
 induction d with
 | zero => intro r; exact Nat.le_refl _
 | succ d ih =>
  intro r
  rw [fracL]
  split
  ·exact Nat.zero_le _
  ·have := ih (r % 1000 * 10); rw [List.length_cons]; omega
theorem frac_val (d : Nat) : ∀ r m, d ≤ 4 → r < 10000 → r % 10 ^ (4 - d) = 0 → valL (fracL d r) m * 10 ^ (d - (fracL d r).length) = m * 10 ^ d + r / 10 ^ (4 - d) := by
 induction d with
 | zero =>
  intro r m _ h hz
  obtain rfl : r = 0 := by omega
  simp [fracL, valL]
 | succ d ih =>
  intro r m hd h hz
  rw [fracL]
  by_cases h0 : r = 0
  ·subst h0
   rw [if_pos rfl]
   simp [valL]
  ·rw [if_neg h0, valL, dc_nat (show r / 1000 < 10 by omega), List.length_cons]
   have hz2 : r % 1000 * 10 % 10 ^ (4 - d) = 0 := by
    have hd' : d = 0 ∨ d = 1 ∨ d = 2 ∨ d = 3 := by omega
    rcases hd' with rfl | rfl | rfl | rfl <;> simp at hz ⊢ <;> omega
   have := ih (r % 1000 * 10) (m * 10 + (48 + r / 1000 - 48)) (by omega) (by omega) hz2
   rw [show d + 1 - ((fracL d (r % 1000 * 10)).length + 1) = d - (fracL d (r % 1000 * 10)).length by omega, this]
   have hd' : d = 0 ∨ d = 1 ∨ d = 2 ∨ d = 3 := by omega
   rcases hd' with rfl | rfl | rfl | rfl <;> simp at hz ⊢ <;> omega
/-- Digits ahead of the point, and behind it. -/
def strD (w f : List UInt8) : List UInt8 := w ++ (if f = [] then [] else 46 :: f)
theorem isD_ne {b : UInt8} (h : isD b = true) : b ≠ 46 ∧ b ≠ 45 := by
 constructor <;> (intro e; subst e; revert h; decide)
theorem cut_str {w : List UInt8} (h : w.all isD = true) (f : List UInt8) : cutL (strD w f) = (w, f, f != []) := by
 unfold strD
 induction w with
 | nil =>
  by_cases hf : f = []
  ·subst hf; rfl
  ·rw [if_neg hf, List.nil_append, cutL, if_pos rfl, show (f != []) = true by simpa using hf]
 | cons b w ih =>
  rw [List.all_cons, Bool.and_eq_true] at h
  rw [List.cons_append, cutL, if_neg (isD_ne h.1).1, ih h.2]
theorem body_str {w : List UInt8} (h : w.all isD = true) (h0 : w ≠ []) (f : List UInt8) : minusL (strD w f) = false ∧ bodyL (strD w f) = strD w f := by
 rcases w with _ | ⟨b, w⟩
 ·exact absurd rfl h0
 ·rw [List.all_cons, Bool.and_eq_true] at h
  have hb : (b == (45 : UInt8)) = false := beq_eq_false_iff_ne.mpr (isD_ne h.1).2
  have hm : Lib.hasPrefix (strD (b :: w) f) [45] = false := by
   unfold strD
   rw [List.cons_append]
   simp [Lib.hasPrefix, List.isPrefixOf, Ne.symm (isD_ne h.1).2]
  refine ⟨hm, ?_⟩
  unfold bodyL Lib.trimPrefix
  rw [hm]; rfl
theorem body_minus (l : List UInt8) : minusL (45 :: l) = true ∧ bodyL (45 :: l) = l := by
 have hm : Lib.hasPrefix ((45 : UInt8) :: l) [45] = true := by simp [Lib.hasPrefix]
 refine ⟨hm, ?_⟩
 unfold bodyL Lib.trimPrefix
 rw [hm]; rfl
theorem right_str {w f : List UInt8} (h : w.all isD = true) (h0 : w ≠ []) (hf : f.all isD = true) (hl : f.length ≤ 4) {t : Nat} (ht : valL w 0 * 10000 + valL f 0 * 10 ^ (4 - f.length) = t) (hm : (t : Int) ≤ 9223372036854775807) :
  rightL (cutL (strD w f)) ∧ totL (cutL (strD w f)) = t := by
 rw [cut_str h]
 have e : totL (w, f, f != []) = t := ht
 refine ⟨⟨h0, h, fun hh => ⟨by simpa using hh, hf, hl⟩, by rw [e]; exact hm⟩, e⟩
theorem read_str {w f : List UInt8} (h : w.all isD = true) (h0 : w ≠ []) (hf : f.all isD = true) (hl : f.length ≤ 4) (hw : w.length ≤ 30) {t : Nat} (ht : valL w 0 * 10000 + valL f 0 * 10 ^ (4 - f.length) = t) (hm : (t : Int) ≤ 9223372036854775807) :
  readL (strD w f) = ((t : Int), true) ∧ readL (45 :: strD w f) = (-(t : Int), true) := by
 obtain ⟨hr, he⟩ := right_str h h0 hf hl ht hm
 have hs : (strD w f).length ≤ 35 := by
  unfold strD
  rw [List.length_append]
  split
  ·simp; omega
  ·rw [List.length_cons]; omega
 obtain ⟨b1, b2⟩ := body_str h h0 f
 obtain ⟨c1, c2⟩ := body_minus (strD w f)
 constructor
 ·unfold readL
  rw [b2, b1, if_pos ⟨by omega, hr⟩, he]; rfl
 ·unfold readL
  rw [c2, c1, if_pos ⟨by rw [List.length_cons]; omega, hr⟩, he]; rfl
theorem frac_nil {r : Nat} : (fracL 4 r = []) ↔ r = 0 := by
 rw [fracL]
 split <;> simp_all
theorem tex_str (x : Int) : texL x = (if x < 0 then [45] else []) ++ strD (Lib.decDigits (x.natAbs / 10000)) (fracL 4 (x.natAbs % 10000)) := by
 unfold texL strD fracS
 rw [List.append_assoc]
 by_cases h : x.natAbs % 10000 = 0
 ·rw [if_pos h, if_pos (frac_nil.2 h)]
 ·rw [if_neg h, if_neg (fun hh => h (frac_nil.1 hh))]
theorem tex_tot (n : Nat) : valL (Lib.decDigits (n / 10000)) 0 * 10000 + valL (fracL 4 (n % 10000)) 0 * 10 ^ (4 - (fracL 4 (n % 10000)).length) = n := by
 rw [dd_val, frac_val 4 (n % 10000) 0 (by decide) (by omega) (by simp; omega)]
 simp
 omega
theorem dd_len16 {x : Int} (h : May x) (hx : I64 x) : (Lib.decDigits (x.natAbs / 10000)).length ≤ 15 := dd_len 14 _ (by unfold May at h; unfold I64 at hx; omega)
theorem read_tex {x : Int} (h : May x) (hx : I64 x) : readL (texL x) = (x, true) := by
 have hl := dd_len16 h hx
 have hm : ((x.natAbs : Nat) : Int) ≤ 9223372036854775807 := by unfold May at h; unfold I64 at hx; omega
 obtain ⟨h1, h2⟩ := read_str (dd_all _) (dd_ne _) (frac_all 4 (x.natAbs % 10000) (by omega)) (frac_len 4 _) (by omega) (tex_tot x.natAbs) hm
 rw [tex_str]
 by_cases h0 : x < 0
 ·rw [if_pos h0, List.singleton_append, h2, show -((x.natAbs : Nat) : Int) = x by omega]
 ·rw [if_neg h0, List.nil_append, h1, show ((x.natAbs : Nat) : Int) = x by omega]
theorem read_ok {l : List UInt8} : I64 (readL l).1 ∧ ((readL l).2 = true → May (readL l).1) := by
 unfold readL
 by_cases hh : l.length ≤ 40 ∧ rightL (cutL (bodyL l))
 ·rw [if_pos hh]
  have := hh.2.2.2.2
  generalize totL (cutL (bodyL l)) = t at *
  unfold I64 May
  dsimp only
  split <;> omega
 ·rw [if_neg hh]
  unfold I64
  exact ⟨by dsimp only; omega, fun h => by cases h⟩
end Go.Den
/- Decimals as texts: what the program's functions, and the reference's digits, answer. -/
set_option linter.unusedVariables false
set_option linter.unusedSimpArgs false
set_option maxRecDepth 100000
namespace Go.Den.ET
open Go Go.Proofs
def pvG (g : Int × Bool) : PV := .tup [.sc (.int .i64 g.1), .sc (.bool g.2)]
theorem pvG_0 (g : Int × Bool) : (cel 0 (pvG g).parts).toInt = g.1 := rfl
theorem pvG_1 (g : Int × Bool) : (cel 1 (pvG g).parts).toBool = g.2 := rfl
theorem may_ev {x : Int} (h : I64 x) : D 148 [.sc (.int .i64 x)] = some (.sc (.bool (decide (May x)))) := by
 rw [f148_eq 0]
 congr 3
 rw [Bool.eq_iff_iff, bne_iff_ne, decide_eq_true_iff]
 unfold I64 at h
 unfold May; omega
theorem units_ev {x : Int} (h : I64 x) : D 150 [.sc (.int .i64 x)] = some (.sc (.int .i64 (if May x then x.tdiv 10000 else 0))) := by
 rw [f150_eq 0]
 refine cb (may_ev h) rfl ?_
 simp only [tb]
 have t := tdm x (m := 10000) (by decide)
 unfold I64 at h
 by_cases hm : May x
 ·rw [if_pos hm, decide_eq_true hm]
  refine im (by decide) ?_
  rw [w64 (by omega) (by omega)]
 ·rw [if_neg hm, decide_eq_false hm]
  exact ip (by decide) rfl
theorem format_ev {n : Int} (h : I64 n) : D 149 [.sc (.int .i64 n), .sc (.int .i64 10)] = some (.sc (.string (B (Lib.itoa n)))) := by
 have e : D 149 [.sc (.int .i64 n), .sc (.int .i64 10)] = xFormatInt [.sc (.int .i64 n), .sc (.int .i64 10)] := (denI_eq 0 _ _).trans (by kernel_rfl)
 rw [e]
 unfold xFormatInt
 exact if_pos ⟨rfl, h.1, h.2⟩
theorem trimr_ev {l : List UInt8} (h : l.length ≤ 1000000) : D 151 [.sc (.string (B l)), .sc (.string (⟨#[48]⟩ : ByteArray))] = some (.sc (.string (B (Lib.trimRightB l 48)))) := by
 have e : D 151 [.sc (.string (B l)), .sc (.string (⟨#[48]⟩ : ByteArray))] = xTrimRight [.sc (.string (B l)), .sc (.string (⟨#[48]⟩ : ByteArray))] := (denI_eq 0 _ _).trans (by kernel_rfl)
 rw [e]
 unfold xTrimRight
 exact if_pos ⟨rfl, by decide, by rw [B_size]; omega⟩
theorem text_j {x : Int} (h : May x) {l : List UInt8} (hl : l.length ≤ 17) : f99.j0a 0 x (B l) = some (.sc (.string (B (l ++ fracS (x.natAbs % 10000))))) := by
 rw [f99.j0a_eq]
 have e := rest_of h
 have hr : x.natAbs % 10000 < 10000 := Nat.mod_lt _ (by decide)
 generalize x.natAbs % 10000 = r at *
 have em : IntKind.i64.wrap ((10000 : Int) + (if IntKind.i64.wrap (0 - (x.tmod 10000)) > x.tmod 10000 then IntKind.i64.wrap (0 - (x.tmod 10000)) else x.tmod 10000)) = ((10000 + r : Nat) : Int) := by
  rw [e]
  split
  ·rw [w64 (x := 0 - -(r : Int)) (by omega) (by omega)]
   rw [w64 (by split <;> omega) (by split <;> omega)]
   split <;> omega
  ·rw [w64 (x := 0 - (r : Int)) (by omega) (by omega)]
   rw [w64 (by split <;> omega) (by split <;> omega)]
   split <;> omega
 unfold fracS
 by_cases h0 : r = 0
 ·refine ip (by rw [e, h0]; split <;> rfl) ?_
  rw [if_pos h0, List.append_nil]
 ·refine im (by rw [e, beq_iff_eq]; split <;> omega) ?_
  rw [em, if_neg h0]
  refine cb (format_ev (by unfold I64; omega)) rfl ?_
  rw [itoa_nat, four hr]
  simp only [ts]
  refine ip (by rw [B_size]; exact Int.natCast_nonneg _) (ip (Int.le_refl _) (ip (by rw [B_size]; simp) (ip (by rw [B_size]; omega) ?_)))
  rw [B_extract]
  refine cb (trimr_ev (by rw [List.length_take, List.length_drop]; simp only [List.length_cons, List.length_nil]; omega)) rfl ?_
  rw [show (List.take (((B [49, dc (r / 1000), dc (r / 100 % 10), dc (r / 10 % 10), dc (r % 10)]).size : Int).toNat - 1) (List.drop 1 [49, dc (r / 1000), dc (r / 100 % 10), dc (r / 10 % 10), dc (r % 10)])) = [dc (r / 1000), dc (r / 100 % 10), dc (r / 10 % 10), dc (r % 10)] from rfl, trim_eq hr h0]
  have hf : (fracL 4 r).length ≤ 4 := frac_len 4 r
  have e46 : (⟨#[46]⟩ : ByteArray) = B [46] := rfl
  refine ip (by simp only [ts, e46, B_append, B_size]; simp; omega) ?_
  simp only [ts, e46, B_append]
  rw [List.append_assoc]
  rfl
theorem text_ev {x : Int} (hx : I64 x) : D 99 [.sc (.int .i64 x)] = some (.sc (.string (B (texS x)))) := by
 rw [f99_eq 0]
 refine cb (may_ev hx) rfl ?_
 simp only [tb]
 unfold texS
 by_cases h : May x
 ·rw [if_pos h, decide_eq_true h]
  have hm := h
  unfold May at hm
  have t := tdm x (m := 10000) (by decide)
  refine im (by decide) (cb (units_ev hx) rfl ?_)
  rw [if_pos h]
  simp only [ti]
  refine cb (format_ev (by unfold I64 at *; omega)) rfl ?_
  have hl := head_len h
  unfold texL
  simp only [bA, tb, ts]
  by_cases h0 : x < 0
  ·rw [if_pos h0] at hl ⊢
   by_cases h1 : x > -10000
   ·rw [show x.tdiv 10000 = ((0 : Nat) : Int) by omega, itoa_nat, show x.natAbs / 10000 = 0 by omega]
    rw [show x.natAbs / 10000 = 0 by omega] at hl
    refine ip (by simp; omega) (ip (by rw [B_size]; simp at hl ⊢; omega) ?_)
    rw [show (⟨#[45]⟩ : ByteArray) = B [45] from rfl, B_append]
    exact text_j h hl
   ·have hq : 0 < x.natAbs / 10000 := by omega
    rw [show x.tdiv 10000 = -((x.natAbs / 10000 : Nat) : Int) by omega, itoa_neg hq]
    refine im (by simp; omega) ?_
    exact text_j h hl
  ·rw [if_neg h0] at hl ⊢
   rw [show x.tdiv 10000 = ((x.natAbs / 10000 : Nat) : Int) by omega, itoa_nat]
   refine im (by simp; omega) ?_
   exact text_j h hl
 ·rw [if_neg h, decide_eq_false h]
  exact ip (by decide) rfl
theorem digit_str (n : Nat) : bytesOf [PV.sc (.int .u8 (IntKind.u8.wrap (IntKind.i64.wrap ((48 : Int) + ((n : Int).tmod 10)))))] = B [dc (n % 10)] := by
 have e : Int.tmod (n : Int) 10 = ((n % 10 : Nat) : Int) := by rw [Int.tmod_eq_emod_of_nonneg (by omega)]; omega
 have h : n % 10 < 10 := Nat.mod_lt _ (by decide)
 have e8 : IntKind.u8.wrap ((48 + n % 10 : Nat) : Int) = ((48 + n % 10 : Nat) : Int) := by
  simp [IntKind.wrap, IntKind.bits, IntKind.signed]; omega
 rw [e, w64 (by omega) (by omega), show ((48 : Int) + ((n % 10 : Nat) : Int)) = ((48 + n % 10 : Nat) : Int) by omega, e8]
 rfl
theorem tens (n : Nat) (h : (n : Int) ≤ 9223372036854775807) : IntKind.i64.wrap (Int.tdiv (n : Int) 10) = ((n / 10 : Nat) : Int) := by
 rw [Int.tdiv_eq_ediv_of_nonneg (by omega), w64 (by omega) (by omega)]
 omega
theorem digits_l (d : Nat) : ∀ (n : Nat) (l : List UInt8), n < 10 ^ d → (n : Int) ≤ 9223372036854775807 → l.length + d ≤ 100 → f59.l0a 0 (n : Int) (B l) = some (.sc (.string (B (dg n ++ l)))) := by
 induction d with
 | zero =>
  intro n l h _ hl
  obtain rfl : n = 0 := by simpa using h
  rw [f59.l0a_eq]
  exact im (by decide) rfl
 | succ d ih =>
  intro n l h hu hl
  rw [f59.l0a_eq]
  by_cases h0 : n = 0
  ·subst h0
   exact im (by decide) rfl
  ·refine ip (by rw [decide_eq_true_eq]; omega) (ip rfl ?_)
   rw [digit_str, B_append, B_size, B_size, tens n hu]
   refine ip (by simp; omega) ?_
   have := ih (n / 10) ([dc (n % 10)] ++ l) (by rw [Nat.pow_succ] at h; omega) (by omega) (by simp; omega)
   rw [← List.append_assoc, dg_step] at this
   rw [show dg n = Lib.decDigits n from if_neg h0]
   exact this
theorem digits_ev {n : Int} (h0 : 0 ≤ n) (h1 : n ≤ 1000000000000000000) : D 59 [.sc (.int .i64 n)] = some (.sc (.string (B (Lib.decDigits n.toNat)))) := by
 obtain ⟨m, rfl⟩ : ∃ m : Nat, n = m := ⟨n.toNat, by omega⟩
 rw [f59_eq 0]
 refine ip rfl ?_
 rw [digit_str, tens m (by omega)]
 have := digits_l 20 (m / 10) [dc (m % 10)] (by omega) (by omega) (by simp)
 rw [dg_step] at this
 exact this
end Go.Den.ET
/- Decimals as texts: which decimal a text means. -/
set_option linter.unusedVariables false
set_option linter.unusedSimpArgs false
set_option maxRecDepth 100000
namespace Go.Den.ET
open Go Go.Proofs
theorem w64h {x : Int} (h0 : 9223372036854775807 < x) (h1 : x ≤ 18446744073709551615) : IntKind.i64.wrap x = x - 18446744073709551616 := by
 simp [IntKind.wrap, IntKind.bits, IntKind.signed]; omega
theorem w64l {x : Int} (h0 : -18446744073709551616 ≤ x) (h1 : x < -9223372036854775808) : IntKind.i64.wrap x = x + 18446744073709551616 := by
 simp [IntKind.wrap, IntKind.bits, IntKind.signed]; omega
theorem add_ev {a b : Int} (ha : I64 a) (hb : I64 b) : D 228 [.sc (.int .i64 a), .sc (.int .i64 b)] = some (pvG (addS a b)) := by
 have hw : I64 (IntKind.i64.wrap (a + b)) := by
  unfold I64 at ha hb ⊢
  by_cases h1 : 9223372036854775807 < a + b
  ·rw [w64h h1 (by omega)]; omega
  ·by_cases h2 : a + b < -9223372036854775808
   ·rw [w64l (by omega) h2]; omega
   ·rw [w64 (by omega) (by omega)]; omega
 rw [f228_eq 0]
 simp only [may_ev ha, may_ev hb, may_ev hw, bs, shb, if_true, tb, bA, bO]
 unfold I64 at ha hb
 unfold addS
 by_cases h1 : 9223372036854775807 < a + b
 ·rw [if_neg (by unfold May; omega)]
  refine ip ?_ rfl
  rw [w64h h1 (by omega)]
  simp only [Bool.or_eq_true, Bool.not_eq_true', Bool.and_eq_true, decide_eq_true_eq, decide_eq_false_iff_not]
  simp only [May]
  omega
 ·by_cases h2 : a + b < -9223372036854775808
  ·rw [if_neg (by unfold May; omega)]
   refine ip ?_ rfl
   rw [w64l (by omega) h2]
   simp only [Bool.or_eq_true, Bool.not_eq_true', Bool.and_eq_true, decide_eq_true_eq, decide_eq_false_iff_not]
   simp only [May]
   omega
  ·simp only [w64 (x := a + b) (by omega) (by omega)]
   by_cases h3 : May a ∧ May b ∧ May (a + b)
   ·rw [if_pos h3]
    refine im ?_ rfl
    simp only [Bool.or_eq_true, Bool.not_eq_true', Bool.and_eq_true, decide_eq_true_eq, decide_eq_false_iff_not] at h3 ⊢
    simp only [May] at h3 ⊢
    omega
   ·rw [if_neg h3]
    refine ip ?_ rfl
    simp only [Bool.or_eq_true, Bool.not_eq_true', Bool.and_eq_true, decide_eq_true_eq, decide_eq_false_iff_not] at h3 ⊢
    simp only [May] at h3 ⊢
    omega
theorem neg_ev {a : Int} (ha : I64 a) : D 230 [.sc (.int .i64 a)] = some (pvG (negS a)) := by
 rw [f230_eq 0]
 refine cb (may_ev ha) rfl ?_
 simp only [tb]
 unfold negS
 by_cases h : May a
 ·rw [if_pos h, decide_eq_true h]
  refine im (by decide) ?_
  unfold May at h
  rw [w64 (by omega) (by omega), Int.zero_sub]
  rfl
 ·rw [if_neg h, decide_eq_false h]
  exact ip (by decide) rfl
theorem size_ev {x : Int} (h0 : 0 ≤ x) (h1 : x ≤ 9223372036854775807) : D 251 [.sc (.int .i64 x)] = some (.sc (.int .u64 x)) := by
 rw [f251_eq 0]
 refine im (by rw [decide_eq_true_eq]; omega) ?_
 rw [u64i h0 (by omega)]
theorem sign_ev {x : Int} (h0 : 0 ≤ x) : D 254 [.sc (.int .i64 x)] = some (.sc (.int .i64 (if x = 0 then 0 else 1))) := by
 rw [f254_eq 0]
 refine im (by rw [decide_eq_true_eq]; omega) ?_
 by_cases h : x = 0
 ·rw [if_pos h]; exact im (by rw [decide_eq_true_eq]; omega) rfl
 ·rw [if_neg h]; exact ip (by rw [decide_eq_true_eq]; omega) rfl
def pvU (a b : Int) : PV := .tup [.sc (.int .u64 a), .sc (.int .u64 b)]
theorem mul64_ev (a b : Int) (ha0 : 0 ≤ a) (ha : a < 18446744073709551616) (hb0 : 0 ≤ b) (hb : b < 18446744073709551616) :
  D 252 [.sc (.int .u64 a), .sc (.int .u64 b)] = some (pvU (a * b / 18446744073709551616) (a * b % 18446744073709551616)) := by
 obtain ⟨p11, p10, p01, p00, e11, e10, e01, e00, h11, h10, h01, h00, e⟩ := mul64_math ha0 ha hb0 hb
 rw [f252_eq 0]
 have ea : a.fdiv 4294967296 = a / 4294967296 := Int.fdiv_eq_ediv_of_nonneg _ (by decide)
 have eb : b.fdiv 4294967296 = b / 4294967296 := Int.fdiv_eq_ediv_of_nonneg _ (by decide)
 rw [and32 ha0 ha, and32 hb0 hb, ea, eb, ← e11, ← e10, ← e01, ← e00, u64i (x := p11) (by omega) (by omega), u64i (x := p10) (by omega) (by omega), u64i (x := p01) (by omega) (by omega), u64i (x := p00) (by omega) (by omega)]
 have e0 : p00.fdiv 4294967296 = p00 / 4294967296 := Int.fdiv_eq_ediv_of_nonneg _ (by decide)
 rw [e0, u64i (x := p10 + p00 / 4294967296) (by omega) (by omega), and32 (by omega) (by omega), u64w (a * b)]
 rw [u64i (x := (p10 + p00 / 4294967296) % 4294967296 + p01) (by omega) (by omega)]
 have e1 : (p10 + p00 / 4294967296).fdiv 4294967296 = (p10 + p00 / 4294967296) / 4294967296 := Int.fdiv_eq_ediv_of_nonneg _ (by decide)
 have e2 : ((p10 + p00 / 4294967296) % 4294967296 + p01).fdiv 4294967296 = ((p10 + p00 / 4294967296) % 4294967296 + p01) / 4294967296 := Int.fdiv_eq_ediv_of_nonneg _ (by decide)
 rw [e1, e2, u64w, u64w]
 unfold pvU
 congr 6
 omega
theorem div64_ev {lo : Int} (h0 : 0 ≤ lo) (h1 : lo < 18446744073709551616) : D 253 [.sc (.int .u64 0), .sc (.int .u64 lo), .sc (.int .u64 1)] = some (pvU lo 0) := by
 rw [f253_eq 0]
 refine im (by decide) ?_
 rw [f253.j0a_eq]
 refine im (by decide) ?_
 rw [f253.j1a_eq]
 refine ip (by decide) (ip (by decide) (ip (by decide) ?_))
 rw [Int.tdiv_one, Int.tmod_one, u64i h0 h1]
 rfl
theorem scaled_ev {a b : Int} (ha0 : 0 ≤ a) (ha : a ≤ 9223372036854775807) (hb0 : 0 < b) (hb : b ≤ 9223372036854775807) : D 227 [.sc (.int .i64 a), .sc (.int .i64 b), .sc (.int .i64 1)] = some (pvG (mulS a b)) := by
 have ma : May a := by unfold May; omega
 have mb : May b := by unfold May; omega
 have m1 : May 1 := by decide
 rw [f227_eq 0]
 simp only [may_ev (show I64 a by unfold I64; omega), may_ev (show I64 b by unfold I64; omega), may_ev (show I64 1 by unfold I64; omega), decide_eq_true ma, decide_eq_true mb, decide_eq_true m1, bs, shb, if_true, tb, bA, bO]
 refine im (by decide) (cb (size_ev (by decide) (by decide)) rfl (cb (size_ev ha0 ha) rfl (cb (size_ev (by omega) hb) rfl ?_)))
 simp only [ti]
 refine cb (mul64_ev a b ha0 (by omega) (by omega) (by omega)) rfl ?_
 show (if decide (a * b / 18446744073709551616 ≥ 1) = true then _ else _) = _
 have hp : 0 ≤ a * b := Int.mul_nonneg ha0 (by omega)
 have hq : a * b / 18446744073709551616 ≥ 0 := Int.ediv_nonneg hp (by decide)
 by_cases ho : a * b / 18446744073709551616 ≥ 1
 ·refine ip (decide_eq_true ho) ?_
  rw [mulS_no (by unfold May; omega)]; rfl
 ·refine im (by rw [decide_eq_true_eq]; exact ho) ?_
  have e0 : a * b / 18446744073709551616 = 0 := by omega
  have e1 : a * b % 18446744073709551616 = a * b := by omega
  rw [e0, e1]
  have hd := div64_ev (lo := a * b) hp (by omega)
  refine cb (x := pvU (a * b) 0) hd rfl ?_
  show (if decide ((0 : Int) ≥ IntKind.u64.wrap (1 - 0)) = true then _ else _) = _
  refine im (by decide) ?_
  show f227.j0a 0 a b 1 (a * b) = _
  rw [f227.j0a_eq]
  by_cases hm : a * b > 9223372036854775807
  ·refine ip (decide_eq_true hm) ?_
   rw [mulS_no (by unfold May; omega)]; rfl
  ·refine im (by rw [decide_eq_true_eq]; exact hm) (cb (sign_ev ha0) rfl (cb (sign_ev (by omega)) rfl (cb (sign_ev (by decide)) rfl ?_)))
   rw [mulS_yes ⟨ma, mb, by unfold May; omega⟩, w64 (x := a * b) (by omega) (by omega)]
   have hb1 : ¬ b = 0 := by omega
   by_cases hz : a = 0
   ·simp only [ti, if_pos hz, if_neg hb1]
    exact im (by decide) rfl
   ·simp only [ti, if_neg hz, if_neg hb1]
    exact im (by decide) rfl
theorem of_ev {x : Int} (h0 : 0 ≤ x) (h1 : x ≤ 9223372036854775807) : D 229 [.sc (.int .i64 x)] = some (pvG (mulS x 10000)) := by
 rw [f229_eq 0]
 exact cb (scaled_ev h0 h1 (by decide) (by decide)) rfl rfl
theorem number_l {w : List UInt8} (hw : w.length ≤ 1000000) (d : Nat) : ∀ (i n : Nat), i + d = w.length → (n : Int) ≤ 9223372036854775807 →
  f204.l0a 0 (B w) (n : Int) (w.length : Int) (i : Int) = some (pvG (if (w.drop i).all isD = true ∧ (valL (w.drop i) n : Int) ≤ 9223372036854775807 then ((valL (w.drop i) n : Int), w != []) else (0, false))) := by
 induction d with
 | zero =>
  intro i n h hn
  rw [f204.l0a_eq]
  refine im (by rw [decide_eq_true_eq]; omega) ?_
  rw [List.drop_eq_nil_of_le (by omega), if_pos ⟨rfl, hn⟩, B_toList, show (⟨#[]⟩ : ByteArray).toList = [] from B_toList []]
  rfl
 | succ d ih =>
  intro i n h hn
  have hi : i < w.length := by omega
  rw [f204.l0a_eq]
  have c1 : (0 : Int) ≤ (i : Int) := by omega
  have c2 : (i : Int) < ((B w).size : Int) := by rw [B_size]; omega
  refine ip (by rw [decide_eq_true_eq]; omega) (ip c1 (ip c2 ?_))
  simp only [if_pos c1, if_pos c2, bs, tb, bO]
  have eb : bt (B w) (i : Int) = (w[i].toNat : Int) := B_bt hi
  rw [List.drop_eq_getElem_cons hi, List.all_cons, valL]
  simp only [eb]
  generalize hb : w[i] = b
  by_cases hd : isD b = true
  ·have hd2 : 48 ≤ b.toNat ∧ b.toNat ≤ 57 := by unfold isD at hd; simpa using hd
   refine im (by rw [Bool.or_eq_true, decide_eq_true_eq, decide_eq_true_eq]; omega) ?_
   rw [hd, Bool.true_and]
   refine cb (scaled_ev (by omega) hn (by decide) (by decide)) rfl ?_
   have e8 : IntKind.i64.wrap (IntKind.u8.wrap ((b.toNat : Int) - 48)) = ((b.toNat - 48 : Nat) : Int) := by
    have : IntKind.u8.wrap ((b.toNat : Int) - 48) = ((b.toNat - 48 : Nat) : Int) := by
     simp [IntKind.wrap, IntKind.bits, IntKind.signed]; omega
    rw [this, w64 (by omega) (by omega)]
   rw [e8]
   have hge := valL_ge (w.drop (i + 1)) (n * 10 + (b.toNat - 48))
   have hd9 : b.toNat - 48 ≤ 9 := by omega
   generalize b.toNat - 48 = c at *
   have ei : IntKind.i64.wrap ((i : Int) + 1) = ((i + 1 : Nat) : Int) := by rw [w64 (by omega) (by omega)]; rfl
   rw [ei]
   have bad : ∀ g : Int × Bool, D 228 [.sc (.int .i64 ((cel 0 (pvG (mulS (n : Int) 10)).parts).toInt)), .sc (.int .i64 (c : Int))] = some (pvG g) → ((!(mulS (n : Int) 10).2) || (!g.2)) = true → ((D 228 [.sc (.int .i64 ((cel 0 (pvG (mulS (n : Int) 10)).parts).toInt)), .sc (.int .i64 (c : Int))]).bind fun r5 => if hasSh (.tup [(.int .i64), .bool]) r5 = true then
       if ((!((cel 1 (pvG (mulS (n : Int) 10)).parts).toBool)) || (!((cel 1 r5.parts).toBool))) = true then
        some (.tup [.sc (.int .i64 0), .sc (.bool false)])
       else
        f204.l0a 0 (B w) ((cel 0 r5.parts).toInt) (w.length : Int) ((i + 1 : Nat) : Int)
       else none) = some (pvG (0, false)) := by
    intro g hg hbad
    refine cb hg rfl ?_
    simp only [pvG_0, pvG_1, tb]
    exact ip hbad rfl
   by_cases h3 : (n : Int) * 10 ≤ 9223372036854775807
   ·have em : mulS (n : Int) 10 = ((n : Int) * 10, true) := mulS_yes (a := (n : Int)) (b := 10) ⟨by unfold May; omega, by decide, by unfold May; omega⟩
    by_cases h4 : (n : Int) * 10 + (c : Int) ≤ 9223372036854775807
    ·rw [em]
     refine cb (add_ev (by show I64 ((n : Int) * 10); unfold I64; omega) (by unfold I64; omega)) rfl ?_
     simp only [pvG_0, pvG_1, tb]
     have ea := addS_yes (a := (n : Int) * 10) (b := (c : Int)) ⟨by unfold May; omega, by unfold May; omega, by unfold May; omega⟩
     refine im (by rw [ea]; simp) ?_
     rw [ea]
     have := ih (i + 1) (n * 10 + c) (by omega) (by omega)
     rw [show ((n * 10 + c : Nat) : Int) = (n : Int) * 10 + (c : Int) by omega] at this
     exact this
    ·rw [if_neg (fun hh => by omega)]
     refine bad _ (add_ev (by rw [pvG_0, em]; show I64 ((n : Int) * 10); unfold I64; omega) (by unfold I64; omega)) ?_
     rw [pvG_0, em, addS_no (by unfold May; omega)]; rfl
   ·have em : mulS (n : Int) 10 = (0, false) := mulS_no (by unfold May; omega)
    rw [if_neg (fun hh => by omega)]
    refine bad _ (add_ev (by rw [pvG_0, em]; show I64 0; unfold I64; omega) (by unfold I64; omega)) ?_
    rw [em]; rfl
  ·have hd2 : ¬ (48 ≤ b.toNat ∧ b.toNat ≤ 57) := by unfold isD at hd; simpa using hd
   refine ip (by rw [Bool.or_eq_true, decide_eq_true_eq, decide_eq_true_eq]; omega) ?_
   rw [if_neg (by rw [Bool.and_eq_true]; exact fun hh => hd hh.1.1)]
   rfl
theorem number_ev {w : List UInt8} (hw : w.length ≤ 1000000) : D 204 [.sc (.string (B w))] = some (pvG (numS w)) := by
 rw [f204_eq 0]
 have := number_l hw w.length 0 0 (Nat.zero_add _) (by decide)
 rw [List.drop_zero] at this
 rw [B_size]
 have e : numS w = (if w.all isD = true ∧ (valL w 0 : Int) ≤ 9223372036854775807 then ((valL w 0 : Int), w != []) else (0, false)) := by
  unfold numS
  by_cases h0 : w = []
  ·subst h0; rfl
  ·by_cases h1 : w.all isD = true ∧ (valL w 0 : Int) ≤ 9223372036854775807
   ·rw [if_pos ⟨h0, h1⟩, if_pos h1, show (w != []) = true by simpa using h0]
   ·rw [if_neg (fun hh => h1 hh.2), if_neg h1]
 rw [e]
 exact this
def putS (x y : Nat) (m : Bool) : Int × Bool := if ((x * 10000 + y : Nat) : Int) ≤ 9223372036854775807 then (if m = true then -((x * 10000 + y : Nat) : Int) else ((x * 10000 + y : Nat) : Int), true) else (0, false)
theorem put_ev {x y : Nat} (hx : (x : Int) ≤ 9223372036854775807) (hy : (y : Int) ≤ 9223372036854775807) (m : Bool) : D 205 [.sc (.int .i64 (x : Int)), .sc (.int .i64 (y : Int)), .sc (.bool m)] = some (pvG (putS x y m)) := by
 rw [f205_eq 0]
 refine cb (of_ev (by omega) hx) rfl ?_
 unfold putS
 by_cases h1 : (x : Int) * 10000 ≤ 9223372036854775807
 ·have em : mulS (x : Int) 10000 = ((x : Int) * 10000, true) := mulS_yes (a := (x : Int)) (b := 10000) ⟨by unfold May; omega, by decide, by unfold May; omega⟩
  rw [em]
  refine cb (add_ev (by show I64 ((x : Int) * 10000); unfold I64; omega) (by unfold I64; omega)) rfl ?_
  simp only [bO]
  simp only [pvG_0, pvG_1, tb]
  by_cases h2 : ((x * 10000 + y : Nat) : Int) ≤ 9223372036854775807
  ·have ea := addS_yes (a := (x : Int) * 10000) (b := (y : Int)) ⟨by unfold May; omega, by unfold May; omega, by unfold May; omega⟩
   rw [if_pos h2]
   refine im (by rw [ea]; simp) ?_
   rw [ea]
   rw [show (x : Int) * 10000 + (y : Int) = ((x * 10000 + y : Nat) : Int) by omega]
   cases m
   ·exact im (by decide) rfl
   ·refine ip rfl (cb (neg_ev (by unfold I64; omega)) rfl ?_)
    rw [show negS ((x * 10000 + y : Nat) : Int) = (-((x * 10000 + y : Nat) : Int), true) from if_pos (by unfold May; omega)]
    rfl
  ·rw [if_neg h2]
   exact ip (by rw [addS_no (by unfold May; omega)]; decide) rfl
 ·have em : mulS (x : Int) 10000 = (0, false) := mulS_no (by unfold May; omega)
  rw [em, if_neg (by omega)]
  refine cb (add_ev (by show I64 0; unfold I64; omega) (by unfold I64; omega)) rfl ?_
  simp only [bO]
  simp only [pvG_0, pvG_1, tb]
  exact ip (by simp) rfl
theorem read_l {x y : Nat} {m : Bool} (hx : (x : Int) ≤ 9223372036854775807) {e : Nat} (he : e ≤ 4) (hy : y * 10 ^ e ≤ 1000000) (d : Nat) : ∀ i : Nat, i + d = e →
  f177.l0a 0 m (x : Int) ((y * 10 ^ i : Nat) : Int) (e : Int) (i : Int) = some (pvG (putS x (y * 10 ^ e) m)) := by
 induction d with
 | zero =>
  intro i h
  obtain rfl : i = e := by omega
  rw [f177.l0a_eq]
  refine im (by rw [decide_eq_true_eq]; omega) ?_
  exact cb (put_ev hx (by omega) m) rfl rfl
 | succ d ih =>
  intro i h
  have hle : y * 10 ^ (i + 1) ≤ y * 10 ^ e := Nat.mul_le_mul_left _ (Nat.pow_le_pow_right (by decide) (by omega))
  have e1 : IntKind.i64.wrap (((y * 10 ^ i : Nat) : Int) * 10) = ((y * 10 ^ (i + 1) : Nat) : Int) := by
   have h2 : y * 10 ^ (i + 1) = y * 10 ^ i * 10 := by rw [pow_next, Nat.mul_assoc]
   generalize y * 10 ^ (i + 1) = q at *
   generalize y * 10 ^ i = p at *
   generalize y * 10 ^ e = z at *
   subst h2
   rw [w64 (by omega) (by omega)]
   omega
  rw [f177.l0a_eq]
  refine ip (by rw [decide_eq_true_eq]; omega) ?_
  rw [e1, w64 (x := (i : Int) + 1) (by omega) (by omega)]
  exact ih (i + 1) (by omega)
theorem cutp_ev (l : List UInt8) : D 47 [.sc (.string (B l)), .sc (.string (⟨#[45]⟩ : ByteArray))] = some (.tup [.sc (.string (B (bodyL l))), .sc (.bool (minusL l))]) := by
 have e : D 47 [.sc (.string (B l)), .sc (.string (⟨#[45]⟩ : ByteArray))] = xCutPrefix [.sc (.string (B l)), .sc (.string (⟨#[45]⟩ : ByteArray))] := (denI_eq 0 _ _).trans (by kernel_rfl)
 rw [e]; rfl
theorem cut_ev {l : List UInt8} (h : l.length ≤ 1000000) : D 184 [.sc (.string (B l)), .sc (.string (⟨#[46]⟩ : ByteArray))] = some (.tup [.sc (.string (B (cutL l).1)), .sc (.string (B (cutL l).2.1)), .sc (.bool (cutL l).2.2)]) := by
 have e : D 184 [.sc (.string (B l)), .sc (.string (⟨#[46]⟩ : ByteArray))] = xCut [.sc (.string (B l)), .sc (.string (⟨#[46]⟩ : ByteArray))] := (denI_eq 0 _ _).trans (by kernel_rfl)
 rw [e]
 unfold xCut
 have ec : (Lib.cut (B l).data.toList (⟨#[46]⟩ : ByteArray).data.toList) = cutL l := cut_eq l
 dsimp only
 rw [ec]
 exact if_pos (by rw [B_size]; omega)
theorem read_ev {l : List UInt8} (hl : l.length ≤ 1000000) : D 177 [.sc (.string (B l))] = some (pvG (readL l)) := by
 rw [f177_eq 0]
 refine cb (cutp_ev l) rfl ?_
 rw [B_size]
 by_cases h40 : (l.length : Int) > 40
 ·rw [show readL l = (0, false) from if_neg (fun hh => by omega)]
  exact ip (decide_eq_true h40) rfl
 ·refine im (by rw [decide_eq_true_eq]; exact h40) ?_
  have hb := body_len l
  refine cb (cut_ev (l := bodyL l) (by omega)) rfl ?_
  have hc := cut_len (bodyL l)
  generalize hC : cutL (bodyL l) = c at *
  refine cb (number_ev (w := c.1) (by omega)) rfl (cb (number_ev (w := c.2.1) (by omega)) rfl ?_)
  have bad : ¬ rightL c → readL l = (0, false) := fun hh => if_neg (fun h2 => hh (by rw [hC] at h2; exact h2.2))
  have hle : valL c.1 0 ≤ totL c := by unfold totL; omega
  have es : ∀ (a b c : PV), (cel 1 (PV.tup [a, b, c]).parts) = b ∧ (cel 2 (PV.tup [a, b, c]).parts) = c := fun _ _ _ => ⟨rfl, rfl⟩
  have es2 : ∀ (a b : PV), (cel 1 (PV.tup [a, b]).parts) = b := fun _ _ => rfl
  simp only [bO, bA, bs]
  simp only [pvG_0, pvG_1, tb, (es _ _ _).1, (es _ _ _).2, ts, es2, B_size]
  have go : (numS c.1) = ((valL c.1 0 : Int), true) → (c.1 ≠ [] ∧ c.1.all isD = true ∧ (valL c.1 0 : Int) ≤ 9223372036854775807) → c.2.1.length ≤ 4 → valL c.2.1 0 * 10 ^ (4 - c.2.1.length) ≤ 1000000 → (c.2.2 = true → c.2.1 ≠ [] ∧ c.2.1.all isD = true ∧ c.2.1.length ≤ 4) → (numS c.2.1).1 = (valL c.2.1 0 : Int) → f177.l0a 0 (minusL l) (numS c.1).1 (numS c.2.1).1 (IntKind.i64.wrap ((4 : Int) - (c.2.1.length : Int))) 0 = some (pvG (readL l)) := by
   intro hn h1 h4 hy hr ey
   rw [hn, ey, w64 (x := 4 - (c.2.1.length : Int)) (by omega) (by omega), show (4 : Int) - (c.2.1.length : Int) = ((4 - c.2.1.length : Nat) : Int) by omega]
   have := read_l (x := valL c.1 0) (y := valL c.2.1 0) (m := minusL l) h1.2.2 (e := 4 - c.2.1.length) (by omega) hy (4 - c.2.1.length) 0 (Nat.zero_add _)
   rw [Nat.pow_zero, Nat.mul_one] at this
   have e : readL l = putS (valL c.1 0) (valL c.2.1 0 * 10 ^ (4 - c.2.1.length)) (minusL l) := by
    unfold readL putS
    rw [hC]
    show _ = if ((totL c : Nat) : Int) ≤ _ then (if minusL l = true then -((totL c : Nat) : Int) else ((totL c : Nat) : Int), true) else (0, false)
    by_cases ht : ((totL c : Nat) : Int) ≤ 9223372036854775807
    ·rw [if_pos ⟨by omega, h1.1, h1.2.1, hr, ht⟩, if_pos ht]
    ·rw [if_neg (fun hh => ht hh.2.2.2.2), if_neg ht]
   rw [e]
   exact this
  by_cases h1 : c.1 ≠ [] ∧ c.1.all isD = true ∧ (valL c.1 0 : Int) ≤ 9223372036854775807
  ·have hn := numS_yes h1
   have hn2 : (numS c.1).2 = true := by rw [hn]
   by_cases hp : c.2.2 = true
   ·by_cases h2 : c.2.1 ≠ [] ∧ c.2.1.all isD = true ∧ (valL c.2.1 0 : Int) ≤ 9223372036854775807
    ·have hm := numS_yes h2
     have hm2 : (numS c.2.1).2 = true := by rw [hm]
     by_cases h4 : c.2.1.length ≤ 4
     ·refine im (by rw [hn2, hm2, hp, decide_eq_false (by omega)]; decide) ?_
      have hv := val_lt c.2.1 0 h2.2.1
      refine go hn h1 h4 ?_ (fun _ => ⟨h2.1, h2.2.1, h4⟩) (by rw [hm])
      have h5 : c.2.1.length = 0 ∨ c.2.1.length = 1 ∨ c.2.1.length = 2 ∨ c.2.1.length = 3 ∨ c.2.1.length = 4 := by omega
      rcases h5 with h5 | h5 | h5 | h5 | h5 <;> rw [h5] at hv ⊢ <;> simp at hv ⊢ <;> omega
     ·refine ip (by rw [hn2, hm2, hp, decide_eq_true (by omega)]; decide) ?_
      rw [bad (fun hh => h4 (hh.2.2.1 hp).2.2)]; rfl
    ·have hm2 : (numS c.2.1).2 = false := by rw [numS_no h2]
     refine ip (by rw [hn2, hm2, hp]; simp) ?_
     rw [bad (fun hh => by
      have h6 := hh.2.2.1 hp
      have h7 := hh.2.2.2
      have h8 : valL c.2.1 0 ≤ totL c := by
       unfold totL
       exact Nat.le_trans (Nat.le_mul_of_pos_right _ (Nat.pow_pos (by decide))) (Nat.le_add_left _ _)
      exact h2 ⟨h6.1, h6.2.1, by omega⟩)]
     rfl
   ·have hp2 : c.2.2 = false := by simpa using hp
    refine im (by rw [hn2, hp2]; simp) ?_
    have he := hc.2.2 hp2
    refine go hn h1 (by rw [he]; decide) (by rw [he]; decide) (fun h => absurd h hp) ?_
    rw [he]
    rfl
  ·have hn2 : (numS c.1).2 = false := by rw [numS_no h1]
   refine ip (by rw [hn2]; simp) ?_
   rw [bad (fun hh => h1 ⟨hh.1, hh.2.1, by have := hh.2.2.2; omega⟩)]
   rfl
end Go.Den.ET
/- What decimal a text means, and with which one it begins: the plain part. -/
set_option linter.unusedVariables false
set_option linter.unusedSimpArgs false
namespace Go.Den
open Go Go.Proofs
/-- How many digits come, at the most m. -/
def runD : Nat → List UInt8 → Nat
 | 0, _ => 0
 | _ + 1, [] => 0
 | m + 1, c :: t => if isD c = true then 1 + runD m t else 0
def isDp (l : List UInt8) (i : Nat) : Bool := match l.drop i with | [] => false | c :: _ => isD c
def leadn (l : List UInt8) : Nat := let n := runD 30 l; if 0 < n ∧ (l.drop n).head? = some 46 ∧ isDp l (n + 1) = true then n + 1 + runD 4 (l.drop (n + 1)) else n
def leadL (l : List UInt8) : Int × Int × Bool := if (readL (l.take (leadn l))).2 = true then ((readL (l.take (leadn l))).1, (leadn l : Int), true) else (0, 0, false)
theorem runD_le : ∀ (m : Nat) (l : List UInt8), runD m l ≤ m ∧ runD m l ≤ l.length
 | 0, l => by simp [runD]
 | m + 1, [] => by simp [runD]
 | m + 1, c :: t => by
  have := runD_le m t
  rw [runD]
  split <;> simp <;> omega
theorem isDp_eq (l : List UInt8) (i : Nat) : isDp l i = if h : i < l.length then isD l[i] else false := by
 unfold isDp
 by_cases h : i < l.length
 ·rw [dif_pos h, List.drop_eq_getElem_cons h]
 ·rw [dif_neg h, List.drop_eq_nil_of_le (by omega)]
theorem runD_step (m : Nat) (l : List UInt8) (i : Nat) : runD (m + 1) (l.drop i) = if isDp l i = true then 1 + runD m (l.drop (i + 1)) else 0 := by
 rw [isDp_eq]
 by_cases h : i < l.length
 ·rw [dif_pos h, List.drop_eq_getElem_cons h, runD]
 ·rw [dif_neg h, List.drop_eq_nil_of_le (by omega), runD]; rfl
theorem leadn_le (l : List UInt8) : leadn l ≤ l.length := by
 unfold leadn
 have h := runD_le 30 l
 have h2 := runD_le 4 (l.drop (runD 30 l + 1))
 rw [List.length_drop] at h2
 dsimp only
 split
 ·rename_i hh
  have hd : isDp l (runD 30 l + 1) = true := hh.2.2
  rw [isDp_eq] at hd
  by_cases h3 : runD 30 l + 1 < l.length
  ·omega
  ·rw [dif_neg h3] at hd; cases hd
 ·exact h.2
theorem minus_eq (b : UInt8) (l : List UInt8) : minusL (b :: l) = ((b.toNat : Int) == 45) ∧ bodyL (b :: l) = if ((b.toNat : Int) == 45) = true then l else b :: l := by
 by_cases h : b = 45
 ·subst h
  exact body_minus l
 ·have hm : minusL (b :: l) = false := by
   unfold minusL
   simp [Lib.hasPrefix, List.isPrefixOf, Ne.symm h]
  have he : ((b.toNat : Int) == 45) = false := beq_eq_false_iff_ne.mpr (fun e => h (UInt8.toNat_inj.1 (by show b.toNat = 45; omega)))
  rw [hm, he]
  refine ⟨rfl, ?_⟩
  unfold bodyL Lib.trimPrefix
  rw [show Lib.hasPrefix (b :: l) [45] = false from hm]; rfl
theorem take_ext (l : List UInt8) (n : Nat) : (B l).extract 0 ((n : Int)).toNat = B (l.take n) := by
 rw [B_extract, Int.toNat_natCast, List.drop_zero, Nat.sub_zero]
def leadR (l : List UInt8) (n : Nat) : Int × Int × Bool := if (readL (l.take n)).2 = true then ((readL (l.take n)).1, (n : Int), true) else (0, 0, false)
theorem take_len (l : List UInt8) (n : Nat) : (l.take n).length ≤ l.length := by rw [List.length_take]; omega
def leadN (l : List UInt8) (n : Nat) : Nat := if 0 < n ∧ (l.drop n).head? = some 46 ∧ isDp l (n + 1) = true then n + 1 + runD 4 (l.drop (n + 1)) else n
theorem dp_lt {l : List UInt8} {i : Nat} (h : isDp l i = true) : i < l.length := by
 rw [isDp_eq] at h
 by_cases h3 : i < l.length
 ·exact h3
 ·rw [dif_neg h3] at h; cases h
end Go.Den
/- Decimals, as the reference reads, adds, multiplies and tells them. -/
set_option linter.unusedVariables false
set_option linter.unusedSimpArgs false
set_option maxRecDepth 100000
namespace Go.Den.ET
open Go Go.Proofs
/-- A count, as the reference tells it. -/
theorem u8dig (n : Nat) : bytesOf [PV.sc (.int .u8 (IntKind.u8.wrap (IntKind.u64.wrap ((48 : Int) + ((n : Int).tmod 10)))))] = B [dc (n % 10)] := by
 have e : Int.tmod (n : Int) 10 = ((n % 10 : Nat) : Int) := by rw [Int.tmod_eq_emod_of_nonneg (by omega)]; omega
 have h : n % 10 < 10 := Nat.mod_lt _ (by decide)
 have e8 : IntKind.u8.wrap ((48 + n % 10 : Nat) : Int) = ((48 + n % 10 : Nat) : Int) := by
  simp [IntKind.wrap, IntKind.bits, IntKind.signed]; omega
 rw [e, u64i (by omega) (by omega), show ((48 : Int) + ((n % 10 : Nat) : Int)) = ((48 + n % 10 : Nat) : Int) by omega, e8]
 rfl
theorem utens (n : Nat) (h : (n : Int) ≤ 18446744073709551615) : IntKind.u64.wrap (Int.tdiv (n : Int) 10) = ((n / 10 : Nat) : Int) := by
 rw [Int.tdiv_eq_ediv_of_nonneg (by omega), u64i (by omega) (by omega)]
 omega
theorem whole_l (d : Nat) : ∀ (n : Nat) (l : List UInt8), n < 10 ^ d → (n : Int) ≤ 18446744073709551615 → l.length + d ≤ 100 → f158.l0a 0 (n : Int) (B l) = some (.sc (.string (B (dg n ++ l)))) := by
 induction d with
 | zero =>
  intro n l h _ hl
  obtain rfl : n = 0 := by simpa using h
  rw [f158.l0a_eq]
  exact im (by decide) rfl
 | succ d ih =>
  intro n l h hu hl
  rw [f158.l0a_eq]
  by_cases h0 : n = 0
  ·subst h0
   exact im (by decide) rfl
  ·refine ip (by rw [decide_eq_true_eq]; omega) (ip rfl ?_)
   rw [u8dig, B_append, B_size, B_size, utens n hu]
   refine ip (by simp; omega) ?_
   have := ih (n / 10) ([dc (n % 10)] ++ l) (by rw [Nat.pow_succ] at h; omega) (by omega) (by simp; omega)
   rw [← List.append_assoc, dg_step] at this
   rw [show dg n = Lib.decDigits n from if_neg h0]
   exact this
theorem whole_ev (n : Nat) (h : n ≤ 18446744073709551615) : D 158 [.sc (.int .u64 (n : Int))] = some (.sc (.string (B (Lib.decDigits n)))) := by
 rw [f158_eq 0]
 refine ip rfl ?_
 rw [u8dig, utens n (by omega)]
 have := whole_l 25 (n / 10) [dc (n % 10)] (by omega) (by omega) (by simp)
 rw [dg_step] at this
 exact this
theorem rmay8_ev {x : Int} (h : I64 x) : D 156 [.sc (.int .i64 x)] = some (.sc (.bool (decide (May x)))) := by
 rw [f156_eq 0]
 congr 3
 rw [Bool.eq_iff_iff, decide_eq_true_iff, decide_eq_true_iff]
 unfold I64 at h
 unfold May; omega
theorem abs_ev {x : Int} (h : May x) : D 157 [.sc (.int .i64 x)] = some (.sc (.int .u64 (x.natAbs : Int))) := by
 unfold May at h
 rw [f157_eq 0]
 by_cases h0 : x < 0
 ·refine ip (by simpa using h0) ?_
  rw [w64 (by omega) (by omega), u64i (by omega) (by omega)]
  exact congrArg (fun z => some (PV.sc (.int .u64 z))) (by omega)
 ·refine im (by simpa using h0) ?_
  rw [u64i (by omega) (by omega)]
  exact congrArg (fun z => some (PV.sc (.int .u64 z))) (by omega)
theorem rtext_l (d : Nat) : ∀ (r : Nat) (l : List UInt8), r < 10000 → d ≤ 4 → r % 10 ^ (4 - d) = 0 → l.length ≤ 40 - d → f106.l2a 0 (B l) (r : Int) = some (.sc (.string (B (l ++ fracL d r)))) := by
 induction d with
 | zero =>
  intro r l hr hd hm hl
  have h0 : r = 0 := by
   have : (10 : Nat) ^ (4 - 0) = 10000 := by decide
   rw [this] at hm
   omega
  subst h0
  rw [f106.l2a_eq]
  refine im (by decide) ?_
  rw [show fracL 0 0 = [] from rfl, List.append_nil]
 | succ d ih =>
  intro r l hr hd hm hl
  rw [f106.l2a_eq]
  by_cases h0 : r = 0
  ·subst h0
   refine im (by decide) ?_
   rw [show fracL (d + 1) 0 = [] from by simp [fracL], List.append_nil]
  ·refine ip (by rw [decide_eq_true_eq]; omega) ?_
   have e1 : IntKind.u64.wrap (Int.tdiv (r : Int) 1000) = ((r / 1000 : Nat) : Int) := by
    rw [Int.tdiv_eq_ediv_of_nonneg (by omega), u64i (by omega) (by omega)]; omega
   have e2 : IntKind.u64.wrap ((Int.tmod (r : Int) 1000) * 10) = ((r % 1000 * 10 : Nat) : Int) := by
    rw [Int.tmod_eq_emod_of_nonneg (by omega), u64i (by omega) (by omega)]; omega
   rw [e1, e2]
   refine cb (whole_ev _ (by omega)) rfl ?_
   rw [dd_small (by omega)]
   simp only [ts]
   refine ip (by simp [B_size]; omega) ?_
   rw [B_append]
   have hm2 : (r % 1000 * 10) % 10 ^ (4 - d) = 0 := by
    have : d = 0 ∨ d = 1 ∨ d = 2 ∨ d = 3 := by omega
    rcases this with rfl | rfl | rfl | rfl
    ·have e : (10 : Nat) ^ (4 - (0 + 1)) = 1000 := by decide
     rw [e] at hm
     show _ % 10000 = 0
     omega
    ·have e : (10 : Nat) ^ (4 - (1 + 1)) = 100 := by decide
     rw [e] at hm
     show _ % 1000 = 0
     omega
    ·have e : (10 : Nat) ^ (4 - (2 + 1)) = 10 := by decide
     rw [e] at hm
     show _ % 100 = 0
     omega
    ·show _ % 10 = 0
     omega
   rw [ih (r % 1000 * 10) (l ++ [dc (r / 1000)]) (by omega) (by omega) hm2 (by simp; omega)]
   rw [show fracL (d + 1) r = dc (r / 1000) :: fracL d (r % 1000 * 10) from by simp [fracL, h0], List.append_assoc]
   rfl
theorem rtext_ev {x : Int} (hx : I64 x) : D 106 [.sc (.int .i64 x)] = some (.sc (.string (B (texS x)))) := by
 rw [f106_eq 0]
 refine cb (rmay8_ev hx) rfl ?_
 simp only [tb]
 unfold texS
 by_cases h : May x
 ·rw [if_pos h, decide_eq_true h]
  refine im (by decide) (cb (abs_ev h) rfl ?_)
  have hh := h
  unfold May at hh
  have e1 : IntKind.u64.wrap (Int.tdiv (x.natAbs : Int) 10000) = ((x.natAbs / 10000 : Nat) : Int) := by
   rw [Int.tdiv_eq_ediv_of_nonneg (by omega), u64i (by omega) (by omega)]; omega
  have e2 : Int.tmod (x.natAbs : Int) 10000 = ((x.natAbs % 10000 : Nat) : Int) := by
   rw [Int.tmod_eq_emod_of_nonneg (by omega)]; omega
  simp only [ti]
  rw [e1]
  refine cb (whole_ev _ (by omega)) rfl ?_
  have hl := head_len h
  have hr : x.natAbs % 10000 < 10000 := Nat.mod_lt _ (by decide)
  have fin : ∀ l : List UInt8, l.length ≤ 17 → f106.j0a 0 (x.natAbs : Int) (B l) = some (.sc (.string (B (l ++ fracS (x.natAbs % 10000))))) := by
   intro l hl
   rw [f106.j0a_eq, e2]
   unfold fracS
   generalize x.natAbs % 10000 = r at hr
   by_cases h0 : r = 0
   ·subst h0
    refine im (by decide) ?_
    rw [f106.j1a_eq, if_pos rfl, List.append_nil, f106.l2a_eq]
    exact im (by decide) rfl
   ·refine ip (by rw [decide_eq_true_eq]; omega) ?_
    rw [if_neg h0]
    refine ip (by rw [B_size]; omega) ?_
    rw [show (⟨#[46]⟩ : ByteArray) = B [46] from rfl, B_append, f106.j1a_eq]
    rw [rtext_l 4 r (l ++ [46]) hr (by decide) (by omega) (by simp; omega), List.append_assoc]
    rfl
  unfold texL
  by_cases h0 : x < 0
  ·rw [if_pos h0] at hl ⊢
   refine ip (by simpa using h0) ?_
   simp only [ts]
   refine ip (by rw [B_size]; simp at hl ⊢; omega) ?_
   rw [show (⟨#[45]⟩ : ByteArray) = B [45] from rfl, B_append]
   exact fin _ hl
  ·rw [if_neg h0] at hl ⊢
   refine im (by simpa using h0) ?_
   exact fin _ hl
 ·rw [if_neg h, decide_eq_false h]
  exact ip (by decide) rfl
theorem bt46 {l : List UInt8} {i : Nat} (h : i < l.length) : ((bt (B l) (i : Int)) == 46) = (l[i] == 46) := by
 rw [B_bt h, Bool.eq_iff_iff, beq_iff_eq, beq_iff_eq]
 constructor
 ·intro h2
  have : l[i].toNat = (46 : UInt8).toNat := by have : (46 : UInt8).toNat = 46 := rfl; omega
  exact UInt8.toNat_inj.1 this
 ·intro h2; rw [h2]; rfl
end Go.Den.ET
/- Which decimal a text means: the reference; with which one a text begins: both. -/
set_option linter.unusedVariables false
set_option linter.unusedSimpArgs false
set_option maxRecDepth 100000
namespace Go.Den.ET
open Go Go.Proofs
theorem pdigit_g (l : List UInt8) (i : Nat) : D 176 [.sc (.string (B l)), .sc (.int .i64 (i : Int))] = some (.sc (.bool (isDp l i))) := by
 rw [f176_eq 0, isDp_eq]
 by_cases h : i < l.length
 ·have c1 : decide ((i : Int) < ((B l).size : Int)) = true := by rw [decide_eq_true_eq, B_size]; omega
  have c2 : (0 : Int) ≤ (i : Int) := by omega
  have c3 : (i : Int) < ((B l).size : Int) := by rw [B_size]; omega
  rw [dif_pos h, c1, B_bt h]
  have e1 : decide ((l[i].toNat : Int) ≥ 48) = decide (48 ≤ l[i].toNat) := decide_eq_decide.2 (by omega)
  have e2 : decide ((l[i].toNat : Int) ≤ 57) = decide (l[i].toNat ≤ 57) := decide_eq_decide.2 (by omega)
  rw [e1, e2]
  simp only [if_pos c2, if_pos c3, bs, tb, if_true, bA]
  rfl
 ·have c1 : decide ((i : Int) < ((B l).size : Int)) = false := by rw [decide_eq_false_iff_not, B_size]; omega
  rw [dif_neg h, c1]
  rfl
end Go.Den.ET
/- The decimal with which a text begins: both. -/
set_option linter.unusedVariables false
set_option linter.unusedSimpArgs false
set_option maxRecDepth 100000
namespace Go.Den.ET
open Go Go.Proofs
def pvT (g : Int × Int × Bool) : PV := .tup [.sc (.int .i64 g.1), .sc (.int .i64 g.2.1), .sc (.bool g.2.2)]
theorem lead_j2 {l : List UInt8} (hl : l.length ≤ 1000000) {n : Nat} (hn : n ≤ l.length) : f128.j2a 0 (B l) (n : Int) = some (pvT (leadR l n)) := by
 rw [f128.j2a_eq]
 have := take_len l n
 refine ip (by omega) (ip (by rw [B_size]; omega) (ip (by omega) ?_))
 rw [take_ext]
 refine cb (read_ev (l := l.take n) (by omega)) rfl ?_
 unfold leadR
 by_cases h : (readL (l.take n)).2 = true
 ·rw [if_pos h]
  exact im (show ¬ (!(readL (l.take n)).2) = true by rw [h]; decide) rfl
 ·rw [if_neg h]
  exact ip (show (!(readL (l.take n)).2) = true by simpa using h) rfl
theorem lead_l1 {l : List UInt8} (hl : l.length ≤ 1000000) {n : Nat} (hn : n < l.length) (d : Nat) : ∀ e : Nat, e + d = n + 5 → e ≤ l.length →
  f128.l1a 0 (B l) (n : Int) (e : Int) = some (pvT (leadR l (e + runD d (l.drop e)))) := by
 have e4 : IntKind.i64.wrap ((n : Int) + 4) = (n : Int) + 4 := w64 (by omega) (by omega)
 induction d with
 | zero =>
  intro e h he
  rw [f128.l1a_eq, e4]
  have c : decide ((e : Int) ≤ (n : Int) + 4) = false := by rw [decide_eq_false_iff_not]; omega
  rw [c]
  simp only [bs, tb, Bool.false_eq_true, if_false]
  exact lead_j2 hl he
 | succ d ih =>
  intro e h he
  rw [f128.l1a_eq, e4]
  have c : decide ((e : Int) ≤ (n : Int) + 4) = true := by rw [decide_eq_true_eq]; omega
  rw [c]
  simp only [pdigit_g, bs, shb, tb, if_true]
  rw [runD_step]
  by_cases hd : isDp l e = true
  ·have h1 := dp_lt hd
   rw [if_pos hd]
   refine ip hd ?_
   rw [nx h1 (by omega), ← Nat.add_assoc]
   exact ih (e + 1) (by omega) (by omega)
  ·rw [if_neg hd]
   exact im hd (lead_j2 hl he)
theorem lead_mid {l : List UInt8} (hl : l.length ≤ 1000000) {n : Nat} (hn : n ≤ l.length) {c : Bool} (hc : c = false) : (if c = true then f128.l0a 0 (B l) (IntKind.i64.wrap ((n : Int) + 1)) else
  Option.bind (α := PV) (if decide ((n : Int) > 0) = true then some (.sc (.bool (decide ((n : Int) < ((B l).size : Int))))) else some (.sc (.bool false))) fun r5 =>
  Option.bind (α := PV) (if r5.toBool = true then Option.bind (α := PV) (Option.bind (α := PV) (if 0 ≤ (n : Int) then if (n : Int) < ((B l).size : Int) then some (.sc (.bool ((bt (B l) (n : Int)) == 46))) else none else none) fun r6 => some (.sc (.bool r6.toBool))) fun r7 => some (.sc (.bool r7.toBool)) else some (.sc (.bool false))) fun r8 =>
  Option.bind (α := PV) (if r8.toBool = true then Option.bind (α := PV) (Option.bind (α := PV) (Option.bind (α := PV) ((D 176 [.sc (.string (B l)), .sc (.int .i64 (IntKind.i64.wrap ((n : Int) + 1)))]).bind fun r9 => if hasSh .bool r9 = true then some (.sc (.bool r9.toBool)) else none) fun r10 => some (.sc (.bool r10.toBool))) fun r11 => some (.sc (.bool r11.toBool))) fun r12 => some (.sc (.bool r12.toBool)) else some (.sc (.bool false))) fun r13 =>
  if r13.toBool = true then f128.l1a 0 (B l) (n : Int) (IntKind.i64.wrap ((n : Int) + 1)) else f128.j2a 0 (B l) (n : Int)) = some (pvT (leadR l (leadN l n))) := by
 subst hc
 refine im (by decide) ?_
 have e1 : IntKind.i64.wrap ((n : Int) + 1) = ((n + 1 : Nat) : Int) := by rw [w64 (by omega) (by omega)]; rfl
 rw [e1, pdigit_g]
 unfold leadN
 by_cases h0 : 0 < n
 ·have c0 : decide ((n : Int) > 0) = true := by rw [decide_eq_true_eq]; omega
  rw [c0]
  by_cases h1 : n < l.length
  ·have c1 : decide ((n : Int) < ((B l).size : Int)) = true := by rw [decide_eq_true_eq, B_size]; omega
   have c2 : (0 : Int) ≤ (n : Int) := by omega
   have c3 : (n : Int) < ((B l).size : Int) := by rw [B_size]; omega
   rw [c1, bt46 h1]
   simp only [bs, tb, shb, if_true, if_pos c2, if_pos c3]
   by_cases h2 : l[n] = 46
   ·have e2 : (l[n] == 46) = true := by rw [h2]; rfl
    rw [e2]
    simp only [bs, tb, if_true]
    have hh : (l.drop n).head? = some 46 := by rw [List.drop_eq_getElem_cons h1, h2]; rfl
    by_cases h3 : isDp l (n + 1) = true
    ·rw [if_pos ⟨h0, hh, h3⟩]
     refine ip h3 ?_
     have := dp_lt h3
     exact lead_l1 hl h1 4 (n + 1) (by omega) (by omega)
    ·rw [if_neg (fun z => h3 z.2.2)]
     exact im h3 (lead_j2 hl hn)
   ·have e2 : (l[n] == 46) = false := beq_eq_false_iff_ne.2 h2
    rw [e2]
    simp only [bs, tb, Bool.false_eq_true, if_false]
    rw [if_neg (fun z => h2 (by have := z.2.1; rw [List.drop_eq_getElem_cons h1] at this; exact Option.some.inj this))]
    exact lead_j2 hl hn
  ·have c1 : decide ((n : Int) < ((B l).size : Int)) = false := by rw [decide_eq_false_iff_not, B_size]; omega
   rw [c1]
   simp only [bs, tb, if_true, Bool.false_eq_true, if_false]
   rw [if_neg (fun z => by have := z.2.1; rw [List.drop_eq_nil_of_le (by omega)] at this; cases this)]
   exact lead_j2 hl hn
 ·have c0 : decide ((n : Int) > 0) = false := by rw [decide_eq_false_iff_not]; omega
  rw [c0]
  simp only [bs, tb, Bool.false_eq_true, if_false]
  rw [if_neg (fun z => h0 z.1)]
  exact lead_j2 hl hn
theorem lead_l0 {l : List UInt8} (hl : l.length ≤ 1000000) (d : Nat) : ∀ i : Nat, i + d = 30 → i ≤ l.length → f128.l0a 0 (B l) (i : Int) = some (pvT (leadR l (leadN l (i + runD d (l.drop i))))) := by
 induction d with
 | zero =>
  intro i h hi
  rw [f128.l0a_eq]
  have c : decide ((i : Int) < 30) = false := by rw [decide_eq_false_iff_not]; omega
  rw [c]
  exact lead_mid hl hi rfl
 | succ d ih =>
  intro i h hi
  rw [f128.l0a_eq]
  have c : decide ((i : Int) < 30) = true := by rw [decide_eq_true_eq]; omega
  rw [c, pdigit_g]
  rw [runD_step]
  by_cases hd : isDp l i = true
  ·have h1 := dp_lt hd
   rw [if_pos hd, hd]
   simp only [bs, shb, tb, if_true]
   rw [nx h1 (by omega), ← Nat.add_assoc]
   exact ih (i + 1) (by omega) (by omega)
  ·have hd' : isDp l i = false := by simpa using hd
   rw [if_neg hd, hd']
   exact lead_mid hl hi rfl
theorem leadR_L (l : List UInt8) : leadR l (leadN l (0 + runD 30 (l.drop 0))) = leadL l := by
 rw [Nat.zero_add, List.drop_zero]; rfl
theorem lead_ev {l : List UInt8} (hl : l.length ≤ 1000000) : D 128 [.sc (.string (B l))] = some (pvT (leadL l)) := by
 rw [f128_eq 0]
 have := lead_l0 hl 30 0 rfl (Nat.zero_le _)
 rw [leadR_L] at this
 exact this
end Go.Den.ET
/- strings.Builder: what is written. -/
set_option linter.unusedVariables false
set_option linter.unusedSimpArgs false
set_option maxRecDepth 100000
namespace Go.Den.ET
open Go Go.Proofs
def bld (xs : List PV) : List PV := [.iptr (.ptr 90 0 :: [.selfp 0, .buf 1 0]), .tup (.ptr 5 0 :: xs)]
theorem sb (l : List UInt8) : strB (B l) = l.map fun b => .sc (.int .u8 b.toNat) := rfl
theorem sb_len (l : List UInt8) : (strB (B l)).length = l.length := by rw [sb, List.length_map]
theorem sb_snoc (l : List UInt8) (b : UInt8) : strB (B l) ++ [.sc (.int .u8 (b.toNat : Int))] = strB (B (l ++ [b])) := by rw [sb, sb]; simp
theorem bcheck_ev (xs : List PV) : D 147 [.hp (bld xs), .ptr 0 0] = some (.tup [.hp (bld xs), .tup []]) := by
 have e : D 147 [.hp (bld xs), .ptr 0 0] = xCopyCheck [.hp (bld xs), .ptr 0 0] := (denI_eq 0 _ _).trans (by kernel_rfl)
 rw [e]
 rfl
theorem byteOk_strB (s : ByteArray) : (strB s).all byteOk = true := by
 unfold strB
 rw [List.all_eq_true]
 intro x hx
 obtain ⟨b, _, rfl⟩ := List.mem_map.1 hx
 have := b.toNat_lt
 simp [byteOk]
 omega
theorem bytesOf_strB (s : ByteArray) : bytesOf (strB s) = s := by
 obtain ⟨l, rfl⟩ := B_of s
 have h : ∀ l : List UInt8, (l.map fun b => PV.sc (.int .u8 (b.toNat : Int))).map (fun x => UInt8.ofNat x.toInt.toNat) = l := by
  intro l
  induction l with
  | nil => rfl
  | cons b l ih =>
   rw [List.map_cons, List.map_cons, ih]
   congr 1
   show UInt8.ofNat ((b.toNat : Int)).toNat = b
   simp
 unfold bytesOf strB
 rw [B_data, h]
 rfl
theorem strB_append (s t : ByteArray) : strB s ++ strB t = strB (s ++ t) := by
 obtain ⟨l, rfl⟩ := B_of s
 obtain ⟨m, rfl⟩ := B_of t
 rw [B_append]
 simp [strB, B]
theorem bwrite_ev (xs : List PV) (s : ByteArray) (h : xs.length + s.size ≤ 1000000) : D 98 [.hp (bld xs), .ptr 0 0, .sc (.string s)] = some (.tup [.hp (bld (xs ++ strB s)), .tup [.sc (.int .i64 (s.size : Int)), .top]]) := by
 refine (f98h_eq 0 s xs).trans (hb (bcheck_ev xs) rfl rfl ?_)
 have e := strB_len s
 exact ip (by show (xs.length + (strB s).length) * 1 ≤ _ ∧ xs.length + (strB s).length ≤ _; omega) rfl
theorem bws_ev (s w : List UInt8) (h : s.length + w.length ≤ 1000000) : D 98 [.hp (bld (strB (B s))), .ptr 0 0, .sc (.string (B w))] = some (.tup [.hp (bld (strB (B (s ++ w)))), .tup [.sc (.int .i64 (w.length : Int)), .top]]) := by
 have := bwrite_ev (strB (B s)) (B w) (by rw [sb_len, B_size]; exact h)
 rw [strB_append, B_append, B_size] at this
 exact this
theorem bwb_ev (s : List UInt8) (b : UInt8) (h : s.length ≤ 1000000) : D 102 [.hp (bld (strB (B s))), .ptr 0 0, .sc (.int .u8 (b.toNat : Int))] = some (.tup [.hp (bld (strB (B (s ++ [b])))), .top]) := by
 refine (f102h_eq 0 (b.toNat : Int) (strB (B s))).trans (hb (bcheck_ev (strB (B s))) rfl rfl ?_)
 have e := sb_len s
 refine ip (by show ((strB (B s)).length + 1) * 1 ≤ _ ∧ (strB (B s)).length + 1 ≤ _; omega) ?_
 show some (PV.tup [.hp (bld (strB (B s) ++ [.sc (.int .u8 (b.toNat : Int))])), .top]) = _
 rw [sb_snoc]
theorem bstr_ev (l : List UInt8) : D 53 [.hp (bld (strB (B l))), .ptr 0 0] = some (.tup [.hp [.top, .top], .sc (.string (B l))]) := by
 have e : D 53 [.hp (bld (strB (B l))), .ptr 0 0] = xBString [.hp (bld (strB (B l))), .ptr 0 0] := (denI_eq 0 _ _).trans (by kernel_rfl)
 rw [e]
 refine (if_pos ⟨rfl, rfl, byteOk_strB (B l)⟩).trans ?_
 rw [bytesOf_strB]
end Go.Den.ET
/- What is put in the place of a text; texts within marks: the plain part. -/
set_option linter.unusedVariables false
set_option linter.unusedSimpArgs false
namespace Go.Den
open Go Go.Proofs
theorem idx_cons (b : UInt8) (l o : List UInt8) (h : o.isPrefixOf (b :: l) = false) : (Lib.index l o = -1 ∧ Lib.index (b :: l) o = -1) ∨ ∃ i : Nat, Lib.index l o = i ∧ Lib.index (b :: l) o = ((i + 1 : Nat) : Int) := by
 have e : Lib.index (b :: l) o = if Lib.index l o == -1 then -1 else Lib.index l o + 1 := by
  conv => lhs; unfold Lib.index
  rw [if_neg (by rw [h]; decide)]
 have hg := Lib.index_ge l o
 by_cases hm : Lib.index l o = -1
 ·exact .inl ⟨hm, by rw [e, hm]; rfl⟩
 ·refine .inr ⟨(Lib.index l o).toNat, by omega, ?_⟩
  rw [e, if_neg (by simpa using hm)]; omega
theorem idx_hit (b : UInt8) (l o : List UInt8) (h : o.isPrefixOf (b :: l) = true) : Lib.index (b :: l) o = ((0 : Nat) : Int) := by
 unfold Lib.index
 rw [if_pos h]; rfl
theorem cnt_hit {b : UInt8} {l o : List UInt8} (ho : o ≠ []) (h : o.isPrefixOf (b :: l) = true) : Lib.count (b :: l) o = 1 + Lib.count ((b :: l).drop o.length) o := by
 have := Lib.count_hit ho (idx_hit b l o h)
 rwa [Nat.zero_add] at this
theorem cnt_miss {b : UInt8} {l o : List UInt8} (ho : o ≠ []) (h : o.isPrefixOf (b :: l) = false) : Lib.count (b :: l) o = Lib.count l o := by
 rcases idx_cons b l o h with ⟨h1, h2⟩ | ⟨i, h1, h2⟩
 ·rw [Lib.count_miss h1, Lib.count_miss h2]
 ·rw [Lib.count_hit ho h1, Lib.count_hit ho h2, show i + 1 + o.length = (i + o.length) + 1 by omega, List.drop_succ_cons]
theorem cnt_nil {o : List UInt8} (ho : o ≠ []) : Lib.count [] o = 0 := by
 refine Lib.count_miss ?_
 unfold Lib.index
 rw [if_neg (by cases o <;> simp_all)]
/-- What is put. -/
def repR (o n s : List UInt8) : List UInt8 := Lib.replaceK o n (Lib.count s o) s
theorem rep_nil {o n : List UInt8} (ho : o ≠ []) : repR o n [] = [] := by unfold repR; rw [cnt_nil ho]; rfl
theorem rep_hit {b : UInt8} {l o n : List UInt8} (ho : o ≠ []) (h : o.isPrefixOf (b :: l) = true) : repR o n (b :: l) = n ++ repR o n ((b :: l).drop o.length) := by
 unfold repR
 rw [cnt_hit ho h, Nat.add_comm, Lib.replaceK_hit o n _ _ 0 (idx_hit b l o h), Nat.zero_add]
 rfl
theorem rep_miss {b : UInt8} {l o n : List UInt8} (ho : o ≠ []) (h : o.isPrefixOf (b :: l) = false) : repR o n (b :: l) = b :: repR o n l := by
 unfold repR
 rw [cnt_miss ho h]
 rcases idx_cons b l o h with ⟨h1, h2⟩ | ⟨i, h1, h2⟩
 ·rw [Lib.count_miss h1]; rfl
 ·rw [Lib.count_hit ho h1, Nat.add_comm, Lib.replaceK_hit o n _ _ i h1, Lib.replaceK_hit o n _ _ (i + 1) h2, show i + 1 + o.length = (i + o.length) + 1 by omega, List.drop_succ_cons]
  rfl
theorem rep_ind {o : List UInt8} (ho : o ≠ []) (M : List UInt8 → Prop) (h0 : M []) (h1 : ∀ b l, o.isPrefixOf (b :: l) = true → M ((b :: l).drop o.length) → M (b :: l)) (h2 : ∀ b l, o.isPrefixOf (b :: l) = false → M l → M (b :: l)) : ∀ (d : Nat) (s : List UInt8), s.length ≤ d → M s
 | _, [], _ => h0
 | 0, b :: l, h => by simp at h
 | d + 1, b :: l, h => by
  have hp : 0 < o.length := List.length_pos_iff.2 ho
  cases e : o.isPrefixOf (b :: l)
  ·exact h2 b l e (rep_ind ho M h0 h1 h2 d l (by simp at h; omega))
  ·exact h1 b l e (rep_ind ho M h0 h1 h2 d _ (by rw [List.length_drop]; simp at h ⊢; omega))
theorem pre_len {o s : List UInt8} (h : o.isPrefixOf s = true) : o.length ≤ s.length ∧ s.take o.length = o := by
 have := List.isPrefixOf_iff_prefix.1 h
 obtain ⟨t, rfl⟩ := this
 exact ⟨by simp, by simp⟩
theorem rep_same {o : List UInt8} (ho : o ≠ []) (s : List UInt8) : repR o o s = s := by
 refine rep_ind ho (fun s => repR o o s = s) (rep_nil ho) ?_ ?_ s.length s (Nat.le_refl _)
 ·intro b l h ih
  rw [rep_hit ho h, ih]
  have := (pre_len h).2
  conv => lhs; lhs; rw [← this]
  exact List.take_append_drop _ _
 ·intro b l h ih
  rw [rep_miss ho h, ih]
def dblL : List UInt8 → List UInt8
 | [] => []
 | b :: l => if b = 34 then 34 :: 34 :: dblL l else b :: dblL l
def quoL (l : List UInt8) : List UInt8 := 34 :: (dblL l ++ [34])
theorem rep_dbl : ∀ l : List UInt8, repR [34] [34, 34] l = dblL l
 | [] => rep_nil (by simp)
 | b :: l => by
  rw [dblL]
  by_cases h : b = 34
  ·subst h
   rw [if_pos rfl, rep_hit (by simp) (by simp [List.isPrefixOf])]
   show 34 :: 34 :: repR [34] [34, 34] l = _
   rw [rep_dbl l]
  ·rw [if_neg h, rep_miss (by simp) (by simp [List.isPrefixOf, Ne.symm h]), rep_dbl l]
theorem dbl_len : ∀ l : List UInt8, (dblL l).length ≤ 2 * l.length
 | [] => by simp [dblL]
 | b :: l => by
  have := dbl_len l
  rw [dblL]
  split <;> simp <;> omega
end Go.Den
/- Texts within marks: both. -/
set_option linter.unusedVariables false
set_option linter.unusedSimpArgs false
set_option maxRecDepth 100000
namespace Go.Den.ET
open Go Go.Proofs
theorem strB_L (l : List UInt8) : strB (B l) = l.map fun b => .sc (.int .u8 b.toNat) := rfl
theorem strB_add (l : List UInt8) (b : UInt8) : strB (B l) ++ [.sc (.int .u8 (b.toNat : Int))] = strB (B (l ++ [b])) := by rw [strB_L, strB_L]; simp
theorem strB_34 (l : List UInt8) : strB (B l) ++ [.sc (.int .u8 34)] = strB (B (l ++ [34])) := strB_add l 34
theorem strB_shp (s : ByteArray) : (strB s).all (hasSh (.int .u8)) = true := by
 rw [List.all_eq_true]
 intro x hx
 unfold strB at hx
 obtain ⟨b, _, rfl⟩ := List.mem_map.1 hx
 rfl
theorem strB_ln (l : List UInt8) : (strB (B l)).length = l.length := by rw [strB_L, List.length_map]
theorem bytes_str (l : List UInt8) : bytesOf (strB (B l)) = B l := by
 have h : ∀ s : ByteArray, bytesOf (strB s) = s := by
  intro s
  unfold bytesOf strB
  rw [List.map_map]
  have e : ((fun x : PV => UInt8.ofNat x.toInt.toNat) ∘ fun b : UInt8 => PV.sc (.int .u8 (b.toNat : Int))) = id := by
   funext b
   show UInt8.ofNat ((b.toNat : Int)).toNat = b
   rw [Int.toNat_natCast]; exact UInt8.ofNat_toNat
  rw [e, List.map_id]
 exact h _
theorem repl_ev (s o n : List UInt8) (hs : s.length ≤ 1000) (hn : n.length ≤ 1000) (ho : o ≠ []) : D 193 [.sc (.string (B s)), .sc (.string (B o)), .sc (.string (B n))] = some (.sc (.string (B (repR o n s)))) := by
 have e : D 193 [.sc (.string (B s)), .sc (.string (B o)), .sc (.string (B n))] = xReplaceAll [.sc (.string (B s)), .sc (.string (B o)), .sc (.string (B n))] := (denI_eq 0 _ _).trans (by kernel_rfl)
 rw [e]
 have hp : 0 < o.length := List.length_pos_iff.2 ho
 have hc : Lib.count s o * n.length ≤ 1001 * 1000 := Nat.mul_le_mul (by have := Lib.count_le s o; omega) hn
 have hcond : (B s).size < 4294967281 ∧ 1 ≤ (B o).size ∧ (B s).size + Lib.countB (B s) (B o) * (B n).size ≤ 140737488355328 := by
  refine ⟨by rw [B_size]; omega, by rw [B_size]; omega, ?_⟩
  rw [B_size, B_size]
  show s.length + Lib.count s o * n.length ≤ _
  omega
 refine (if_pos hcond).trans ?_
 ·show some (PV.sc (.string (B (Lib.replaceAll s o n)))) = _
  have e2 : Lib.replaceAll s o n = repR o n s := by
   unfold Lib.replaceAll Lib.replace
   by_cases h : (o == n) = true
   ·rw [if_pos h]
    have : o = n := by simpa using h
    subst this
    exact (rep_same ho s).symm
   ·rw [if_neg h]
    unfold repR Lib.replaceNum
    rw [if_pos (.inl (by decide))]
  rw [e2]
theorem quote_ev (l : List UInt8) (hl : l.length ≤ 1000) : D 152 [.sc (.string (B l))] = some (.sc (.string (B (quoL l)))) := by
 rw [f152_eq 0]
 have e34 : (⟨#[34]⟩ : ByteArray) = B [34] := rfl
 have e3434 : (⟨#[34, 34]⟩ : ByteArray) = B [34, 34] := rfl
 rw [e34, e3434]
 refine cb (repl_ev l [34] [34, 34] hl (by simp) (by simp)) rfl ?_
 rw [rep_dbl]
 have := dbl_len l
 simp only [ts, B_append, B_size]
 refine ip (by omega) (ip (by simp; omega) ?_)
 rfl
theorem bt34 {l : List UInt8} {i : Nat} (h : i < l.length) : ((bt (B l) (i : Int)) == 34) = decide (l[i] = 34) := by
 rw [B_bt h, Bool.eq_iff_iff, beq_iff_eq, decide_eq_true_eq]
 constructor
 ·intro h2
  have : l[i].toNat = (34 : UInt8).toNat := by have : (34 : UInt8).toNat = 34 := rfl; omega
  exact UInt8.toNat_inj.1 this
 ·intro h2; rw [h2]; rfl
theorem rquote_l (l : List UInt8) (hl : l.length ≤ 1000) : ∀ (d i : Nat) (out : List UInt8), i + d = l.length → out.length ≤ 2 * i + 1 → f159.l0a 0 (B l) (i : Int) (strB (B out)) = some (.sc (.string (B (out ++ (dblL (l.drop i) ++ [34]))))) := by
 intro d
 induction d with
 | zero =>
  intro i out h ho
  rw [f159.l0a_eq]
  refine im (by rw [decide_eq_true_eq, B_size]; omega) ?_
  refine ip (by rw [strB_ln]; simp; omega) ?_
  rw [strB_34]
  refine ip (strB_shp _) ?_
  rw [bytes_str, List.drop_eq_nil_of_le (by omega), dblL, List.nil_append]
 | succ d ih =>
  intro i out h ho
  have hi : i < l.length := by omega
  have c1 : (0 : Int) ≤ (i : Int) := by omega
  have c2 : (i : Int) < ((B l).size : Int) := by rw [B_size]; omega
  rw [f159.l0a_eq]
  refine ip (by rw [decide_eq_true_eq]; exact c2) (ip c1 (ip c2 ?_))
  rw [List.drop_eq_getElem_cons hi, dblL]
  by_cases hb : l[i] = 34
  ·refine ip (by rw [bt34 hi]; exact decide_eq_true hb) (ip (by rw [strB_ln]; simp; omega) (ip c1 (ip c2 (ip (by rw [strB_34, strB_ln]; simp; omega) ?_))))
   rw [strB_34, B_bt hi, strB_add, hb, if_pos rfl, nx hi (by omega), ih (i + 1) (out ++ [34] ++ [34]) (by omega) (by simp; omega)]
   simp
  ·refine im (by rw [bt34 hi]; simpa using hb) (ip c1 (ip c2 (ip (by rw [strB_ln]; simp; omega) ?_)))
   rw [B_bt hi, strB_add, if_neg hb, nx hi (by omega), ih (i + 1) (out ++ [l[i]]) (by omega) (by simp; omega)]
   simp
theorem rquote_ev (l : List UInt8) (hl : l.length ≤ 1000) : D 159 [.sc (.string (B l))] = some (.sc (.string (B (quoL l)))) := by
 rw [f159_eq 0]
 have := rquote_l l hl l.length 0 [34] (by omega) (by simp)
 rw [List.drop_zero] at this
 exact this
end Go.Den.ET
/- Tokens of a text: the plain part. -/
set_option linter.unusedVariables false
set_option linter.unusedSimpArgs false
namespace Go.Den
open Go Go.Proofs
structure Tk where
 kind : Nat
 loc : Nat
 text : List UInt8
 num : Int
def plainB (b : UInt8) : Bool := decide (32 ≤ b.toNat) && b.toNat != 127
def uppB (b : UInt8) : Bool := (decide (65 ≤ b.toNat) && decide (b.toNat ≤ 90)) || b.toNat == 36
def wrdB (b : UInt8) : Bool := uppB b || isD b
/-- The text within marks (behind the first one), and how many bytes it takes. -/
def strL : List UInt8 → Option (List UInt8 × Nat)
 | [] => none
 | [b] => if plainB b = false then none else if b = 34 then some ([], 1) else none
 | b :: c :: l => if plainB b = false then none else if b = 34 then (if c = 34 then (strL l).map (fun r => (34 :: r.1, r.2 + 2)) else some ([], 1)) else (strL (c :: l)).map (fun r => (b :: r.1, r.2 + 1))
def runW : List UInt8 → Nat
 | [] => 0
 | b :: l => if wrdB b = true then runW l + 1 else 0
def sigs : List (List UInt8) := [[35, 82, 69, 70], [60, 62], [60, 61], [62, 61], [43], [45], [42], [47], [94], [38], [61], [60], [62], [40], [41], [44], [58]]
def signL (s : List UInt8) : Option (List UInt8) := sigs.find? (fun t => t.isPrefixOf s)
/-- The token with which a text begins, and how many bytes it takes. -/
def nextL : List UInt8 → Option (Tk × Nat)
 | [] => none
 | b :: l =>
  if isD b = true then (if (leadL (b :: l)).2.2 = true then some (⟨1, 0, [], (leadL (b :: l)).1⟩, leadn (b :: l)) else none)
  else if b = 34 then (strL l).map (fun r => (⟨2, 0, r.1, 0⟩, r.2 + 1))
  else if uppB b = true then some (⟨3, 0, b :: l.take (runW l), 0⟩, runW l + 1)
  else (signL (b :: l)).map (fun t => (⟨4, 0, t, 0⟩, t.length))
def Tk.put (t : Tk) (a : Nat) : Tk := ⟨t.kind, a, t.text, t.num⟩
/-- All tokens from a place on; or the place that is wrong. -/
def lexL (a : Nat) (s : List UInt8) : Nat ⊕ List Tk :=
 match s with
 | [] => .inr [⟨5, a, [], 0⟩]
 | b :: l => if b = 32 then lexL (a + 1) l else match nextL (b :: l) with
  | none => .inl a
  | some (t, n) => match lexL (a + n) (l.drop (n - 1)) with
   | .inl e => .inl e
   | .inr r => .inr (t.put a :: r)
termination_by s.length
decreasing_by all_goals (simp; try omega)
theorem runD_pos {m : Nat} {b : UInt8} {l : List UInt8} (h : isD b = true) : 0 < runD (m + 1) (b :: l) := by
 rw [runD, if_pos h]; omega
theorem leadn_pos {b : UInt8} {l : List UInt8} (h : isD b = true) : 0 < leadn (b :: l) := by
 have := runD_pos (m := 29) (l := l) h
 unfold leadn
 dsimp only
 split
 ·omega
 ·exact this
theorem strL_le : ∀ (l : List UInt8) (r : List UInt8 × Nat), strL l = some r → r.2 ≤ l.length
 | [], r, h => by rw [strL] at h; cases h
 | [b], r, h => by
  rw [strL] at h
  split at h
  ·cases h
  ·split at h
   ·cases h; simp
   ·cases h
 | b :: c :: l, r, h => by
  rw [strL] at h
  split at h
  ·cases h
  ·split at h
   ·split at h
    ·obtain ⟨r', h1, rfl⟩ := Option.map_eq_some_iff.1 h
     have := strL_le l r' h1
     simp; omega
    ·cases h; simp
   ·obtain ⟨r', h1, rfl⟩ := Option.map_eq_some_iff.1 h
    have := strL_le (c :: l) r' h1
    simp at this ⊢; omega
theorem runW_le : ∀ l : List UInt8, runW l ≤ l.length
 | [] => Nat.le_refl _
 | b :: l => by have := runW_le l; rw [runW]; split <;> simp <;> omega
theorem sign_pre {s t : List UInt8} (h : signL s = some t) : t.isPrefixOf s = true ∧ t ∈ sigs := by
 unfold signL at h
 exact ⟨by simpa using List.find?_some h, List.mem_of_find?_eq_some h⟩
theorem sigs_len {t : List UInt8} (h : t ∈ sigs) : 0 < t.length ∧ t.length ≤ 4 := by
 have : ∀ t ∈ sigs, 0 < t.length ∧ t.length ≤ 4 := by decide
 exact this t h
theorem sign_len {s t : List UInt8} (h : signL s = some t) : t.length ≤ s.length := by
 have := (sign_pre h).1
 exact (List.isPrefixOf_iff_prefix.1 this).length_le
theorem next_le {s : List UInt8} {t : Tk} {n : Nat} (h : nextL s = some (t, n)) : 0 < n ∧ n ≤ s.length := by
 rcases s with _ | ⟨b, l⟩
 ·cases h
 rw [nextL] at h
 split at h
 ·rename_i hd
  split at h
  ·cases h
   exact ⟨leadn_pos hd, leadn_le _⟩
  ·cases h
 ·split at h
  ·obtain ⟨r, h1, h2⟩ := Option.map_eq_some_iff.1 h
   cases h2
   have := strL_le l r h1
   simp; omega
  ·split at h
   ·cases h
    have := runW_le l
    simp; omega
   ·obtain ⟨r, h1, h2⟩ := Option.map_eq_some_iff.1 h
    cases h2
    exact ⟨(sigs_len (sign_pre h1).2).1, sign_len h1⟩
theorem lexL_nil (a : Nat) : lexL a [] = .inr [⟨5, a, [], 0⟩] := by rw [lexL]
theorem lexL_blank (a : Nat) (l : List UInt8) : lexL a (32 :: l) = lexL (a + 1) l := by rw [lexL, if_pos rfl]
theorem lexL_bad {a : Nat} {b : UInt8} {l : List UInt8} (hb : b ≠ 32) (h : nextL (b :: l) = none) : lexL a (b :: l) = .inl a := by
 rw [lexL, if_neg hb, h]
theorem lexL_tok {a : Nat} {b : UInt8} {l : List UInt8} (hb : b ≠ 32) {t : Tk} {n : Nat} (h : nextL (b :: l) = some (t, n)) : lexL a (b :: l) = (match lexL (a + n) ((b :: l).drop n) with | .inl e => .inl e | .inr r => .inr (t.put a :: r)) := by
 rw [lexL, if_neg hb, h]
 have := next_le h
 obtain ⟨m, rfl⟩ : ∃ m, n = m + 1 := ⟨n - 1, by omega⟩
 rfl
end Go.Den
/- Tokens: what stands behind a blank changes nothing; tokens told are read again; blanks put ahead of one. -/
set_option linter.unusedVariables false
set_option linter.unusedSimpArgs false
namespace Go.Den
open Go Go.Proofs
def sep (q : List UInt8) : Prop := q = [] ∨ ∃ r, q = 32 :: r
theorem sep_head {q : List UInt8} (hq : sep q) {p : List UInt8} {b : UInt8} (hb : b ≠ 32) : ((p ++ q).drop p.length).head? ≠ some b := by
 rw [List.drop_left]
 rcases hq with rfl | ⟨r, rfl⟩
 ·simp
 ·intro h; exact hb (Option.some.inj h).symm
theorem sep_dig {q : List UInt8} (hq : sep q) {p : List UInt8} : isDp (p ++ q) p.length = false := by
 unfold isDp
 rw [List.drop_left]
 rcases hq with rfl | ⟨r, rfl⟩
 ·rfl
 ·rfl
theorem sigs_blank {t : List UInt8} (h : t ∈ sigs) : (32 : UInt8) ∉ t := by
 have : ∀ t ∈ sigs, (32 : UInt8) ∉ t := by decide
 exact this t h
end Go.Den
/- Tokens told as text are the same tokens. -/
set_option linter.unusedVariables false
set_option linter.unusedSimpArgs false
namespace Go.Den
open Go Go.Proofs
def telT (t : Tk) : List UInt8 := if t.kind = 1 then texS t.num else if t.kind = 2 then quoL t.text else t.text
def goodT (t : Tk) : Prop := (1 ≤ t.kind ∧ t.kind ≤ 4) ∧ (∃ b l, telT t = b :: l ∧ b ≠ 32) ∧ ∀ q, sep q → nextL (telT t ++ q) = some (t.put 0, (telT t).length)
theorem isD_rng {b : UInt8} (h : isD b = true) : 48 ≤ b.toNat ∧ b.toNat ≤ 57 := by unfold isD at h; simpa using h
theorem runD_all {m : Nat} {w q : List UInt8} (hw : w.all isD = true) (hm : w.length ≤ m) (hq : m = w.length ∨ isDp q 0 = false) : runD m (w ++ q) = w.length := by
 induction w generalizing m with
 | nil =>
  rcases m with _ | m
  ·rfl
  ·rcases hq with h | h
   ·simp at h
   ·have := runD_step m q 0
    rw [List.drop_zero, if_neg (by rw [h]; decide)] at this
    exact this
 | cons b w ih =>
  rw [List.all_cons, Bool.and_eq_true] at hw
  obtain ⟨m, rfl⟩ : ∃ m', m = m' + 1 := ⟨m - 1, by simp at hm; omega⟩
  rw [List.cons_append, runD, if_pos hw.1, ih hw.2 (by simp at hm; omega) (by
   rcases hq with h | h
   ·left; simp at h; omega
   ·exact Or.inr h)]
  simp; omega
theorem sep_d0 {q : List UInt8} (hq : sep q) : isDp q 0 = false := by
 have := sep_dig hq (p := [])
 exact this
theorem leadn_str {w f q : List UInt8} (hw : w.all isD = true) (hw0 : w ≠ []) (hwl : w.length < 30) (hf : f.all isD = true) (hfl : f.length ≤ 4) (hq : sep q) : leadn (strD w f ++ q) = (strD w f).length := by
 have hp : 0 < w.length := List.length_pos_iff.2 hw0
 unfold leadn strD
 dsimp only
 by_cases h0 : f = []
 ·rw [if_pos h0, List.append_nil, runD_all hw (by omega) (Or.inr (sep_d0 hq))]
  exact if_neg (fun hh => absurd hh.2.1 (sep_head hq (by decide)))
 ·rw [if_neg h0, List.append_assoc, List.cons_append, runD_all hw (by omega) (Or.inr rfl)]
  have e1 : (w ++ 46 :: (f ++ q)).drop (w.length + 1) = f ++ q := by
   rw [← List.drop_drop, List.drop_left]; rfl
  have hd : isDp (w ++ 46 :: (f ++ q)) (w.length + 1) = true := by
   unfold isDp
   rw [e1]
   rcases f with _ | ⟨c, f⟩
   ·exact absurd rfl h0
   ·rw [List.all_cons, Bool.and_eq_true] at hf
    exact hf.1
  rw [if_pos ⟨hp, by rw [List.drop_left]; rfl, hd⟩, e1, runD_all hf hfl (Or.inr (sep_d0 hq))]
  simp; omega
theorem good_num {x : Int} (hx : May x) (h0 : 0 ≤ x) : goodT ⟨1, 0, [], x⟩ := by
 have e : telT ⟨1, 0, [], x⟩ = strD (Lib.decDigits (x.natAbs / 10000)) (fracL 4 (x.natAbs % 10000)) := by
  unfold telT texS
  rw [if_pos rfl, if_pos hx, tex_str, if_neg (show ¬ x < 0 by omega), List.nil_append]
 have hw := dd_all (x.natAbs / 10000)
 have hw0 := dd_ne (x.natAbs / 10000)
 have hl := dd_len16 hx hx.i
 obtain ⟨b, l, hb⟩ : ∃ b l, Lib.decDigits (x.natAbs / 10000) = b :: l := by
  cases hh : Lib.decDigits (x.natAbs / 10000) with
  | nil => exact absurd hh hw0
  | cons b l => exact ⟨b, l, rfl⟩
 have hbd : isD b = true := by rw [hb, List.all_cons, Bool.and_eq_true] at hw; exact hw.1
 have hr := isD_rng hbd
 have e2 : strD (Lib.decDigits (x.natAbs / 10000)) (fracL 4 (x.natAbs % 10000)) = b :: (l ++ if fracL 4 (x.natAbs % 10000) = [] then [] else 46 :: fracL 4 (x.natAbs % 10000)) := by
  unfold strD
  rw [hb, List.cons_append]
 refine ⟨⟨by simp, by simp⟩, ⟨b, _, e.trans e2, fun h => by rw [h] at hr; exact absurd hr.1 (by decide)⟩, fun q hq => ?_⟩
 have hln := leadn_str hw hw0 (by omega) (frac_all 4 (x.natAbs % 10000) (by omega)) (frac_len 4 (x.natAbs % 10000)) hq
 have hrd : readL (strD (Lib.decDigits (x.natAbs / 10000)) (fracL 4 (x.natAbs % 10000))) = (x, true) := by
  have := read_tex hx hx.i
  rw [tex_str, if_neg (by omega), List.nil_append] at this
  exact this
 have hld : leadL (strD (Lib.decDigits (x.natAbs / 10000)) (fracL 4 (x.natAbs % 10000)) ++ q) = (x, ((strD (Lib.decDigits (x.natAbs / 10000)) (fracL 4 (x.natAbs % 10000))).length : Int), true) := by
  unfold leadL
  rw [hln, List.take_left, hrd]
  exact if_pos rfl
 rw [e]
 generalize hs : strD (Lib.decDigits (x.natAbs / 10000)) (fracL 4 (x.natAbs % 10000)) = s at *
 rw [e2] at hld hln ⊢
 rw [List.cons_append] at hld hln ⊢
 rw [nextL, if_pos hbd, hld, if_pos rfl, hln]
 rfl
theorem str_dbl : ∀ (l q : List UInt8), l.all plainB = true → sep q → strL (dblL l ++ (34 :: q)) = some (l, (dblL l).length + 1)
 | [], q, _, hq => by
  rw [dblL, List.nil_append]
  rcases hq with rfl | ⟨r, rfl⟩
  ·rfl
  ·rw [strL, if_neg (by decide), if_pos rfl, if_neg (by decide)]; rfl
 | b :: l, q, h, hq => by
  rw [List.all_cons, Bool.and_eq_true] at h
  have ih := str_dbl l q h.2 hq
  by_cases hb : b = 34
  ·subst hb
   rw [dblL, if_pos rfl, List.cons_append, List.cons_append, strL, if_neg (by decide), if_pos rfl, if_pos rfl, ih]
   simp
  ·rw [dblL, if_neg hb, List.cons_append]
   obtain ⟨c, m, hc⟩ : ∃ c m, dblL l ++ (34 :: q) = c :: m := by
    cases hh : dblL l ++ (34 :: q) with
    | nil => simp at hh
    | cons c m => exact ⟨c, m, rfl⟩
   rw [hc, strL, if_neg (by rw [h.1]; decide), if_neg hb, ← hc, ih]
   simp
theorem good_str {l : List UInt8} (h : l.all plainB = true) : goodT ⟨2, 0, l, 0⟩ := by
 refine ⟨⟨by simp, by simp⟩, ⟨34, _, rfl, by decide⟩, fun q hq => ?_⟩
 show nextL (quoL l ++ q) = some (⟨2, 0, l, 0⟩, (quoL l).length)
 unfold quoL
 rw [List.cons_append, nextL, if_neg (by decide), if_pos rfl, List.append_assoc, List.singleton_append, str_dbl l q h hq]
 simp
end Go.Den
/- The program's tokens. -/
set_option linter.unusedVariables false
set_option linter.unusedSimpArgs false
set_option maxRecDepth 100000
namespace Go.Den.ET
open Go Go.Proofs
abbrev EM : ByteArray := ⟨#[]⟩
def tkp (t : Tk) : PV := .agg [.sc (.int .i64 (t.kind : Int)), .sc (.int .i64 (t.loc : Int)), .sc (.string (B t.text)), .sc (.int .i64 t.num)]
def tp (l : List Tk) : List PV := l.map tkp
theorem tp_len (l : List Tk) : (tp l).length = l.length := by simp [tp]
theorem tp_get {l : List Tk} {i : Nat} (h : i < l.length) : (tp l).getD i .top = tkp l[i] := by simp [tp, h]
theorem tp_app (l : List Tk) (t : Tk) : tp l ++ [tkp t] = tp (l ++ [t]) := by simp [tp]
theorem plain_ev (b : UInt8) : D 178 [.sc (.int .u8 (b.toNat : Int))] = some (.sc (.bool (plainB b))) := by
 rw [f178_eq 0]
 have e1 : decide ((b.toNat : Int) ≥ 32) = decide (32 ≤ b.toNat) := decide_eq_decide.2 (by omega)
 have e2 : ((b.toNat : Int) != 127) = (b.toNat != 127) := by
  rw [Bool.eq_iff_iff, bne_iff_ne, bne_iff_ne]; omega
 rw [e1, e2, bA]
 rfl
theorem inWord_ev (b : UInt8) (g : Bool) : D 130 [.sc (.int .u8 (b.toNat : Int)), .sc (.bool g)] = some (.sc (.bool (if g = true then uppB b else wrdB b))) := by
 rw [f130_eq 0]
 have e1 : decide ((b.toNat : Int) ≥ 65) = decide (65 ≤ b.toNat) := decide_eq_decide.2 (by omega)
 have e2 : decide ((b.toNat : Int) ≤ 90) = decide (b.toNat ≤ 90) := decide_eq_decide.2 (by omega)
 have e3 : ((b.toNat : Int) == 36) = (b.toNat == 36) := by
  rw [Bool.eq_iff_iff, beq_iff_eq, beq_iff_eq]; omega
 have e4 : decide ((b.toNat : Int) ≥ 48) = decide (48 ≤ b.toNat) := decide_eq_decide.2 (by omega)
 have e5 : decide ((b.toNat : Int) ≤ 57) = decide (b.toNat ≤ 57) := decide_eq_decide.2 (by omega)
 rw [e1, e2, e3, e4, e5]
 simp only [bs, tb, bA, bO]
 unfold wrdB uppB isD
 cases g <;> simp
theorem strL_eq (b : UInt8) (t : List UInt8) : strL (b :: t) = if plainB b = false then none else if b = 34 then (if t.head? = some 34 then (strL t.tail).map (fun r => (34 :: r.1, r.2 + 2)) else some ([], 1)) else (strL t).map (fun r => (b :: r.1, r.2 + 1)) := by
 rcases t with _ | ⟨c, l⟩
 ·conv => lhs; rw [strL]
  by_cases h1 : plainB b = false
  ·rw [if_pos h1, if_pos h1]
  ·rw [if_neg h1, if_neg h1]
   by_cases h2 : b = 34
   ·rw [if_pos h2, if_pos h2]; rfl
   ·rw [if_neg h2, if_neg h2]; rfl
 ·conv => lhs; rw [strL]
  by_cases h1 : plainB b = false
  ·rw [if_pos h1, if_pos h1]
  ·rw [if_neg h1, if_neg h1]
   by_cases h2 : b = 34
   ·rw [if_pos h2, if_pos h2]
    by_cases h3 : c = 34
    ·rw [if_pos h3, if_pos (show (c :: l).head? = some 34 by rw [h3]; rfl)]; rfl
    ·rw [if_neg h3, if_neg (show ¬ (c :: l).head? = some 34 from fun h => h3 (Option.some.inj h))]
   ·rw [if_neg h2, if_neg h2]
def strR (acc : List UInt8) (i : Nat) : Option (List UInt8 × Nat) → PV
 | none => .tup [.sc (.string EM), .sc (.int .i64 0)]
 | some r => .tup [.sc (.string (B (acc ++ r.1))), .sc (.int .i64 ((i + r.2 : Nat) : Int))]
theorem strR_some (acc : List UInt8) (i : Nat) (r : List UInt8 × Nat) : strR acc i (some r) = .tup [.sc (.string (B (acc ++ r.1))), .sc (.int .i64 ((i + r.2 : Nat) : Int))] := rfl
theorem str_a (s : ByteArray) (i : Int) : f129.l0a 0 s i = f129.l0b 0 s i [] := by
 rw [f129.l0a_eq, f129.l0b_eq]
theorem str_b (s : List UInt8) (hl : s.length ≤ 100000) : ∀ (d i : Nat) (acc : List UInt8), i ≤ s.length → s.length - i ≤ d → acc.length ≤ i → f129.l0b 0 (B s) (i : Int) (strB (B acc)) = some (strR acc i (strL (s.drop i))) := by
 intro d
 induction d with
 | zero =>
  intro i acc hi hd ha
  rw [f129.l0b_eq, List.drop_eq_nil_of_le (by omega)]
  exact im (by rw [decide_eq_true_eq, B_size]; omega) rfl
 | succ d ih =>
  intro i acc hi hd ha
  by_cases he : i < s.length
  ·rw [f129.l0b_eq, List.drop_eq_getElem_cons he, strL_eq]
   have c1 : (0 : Int) ≤ (i : Int) := by omega
   have c2 : (i : Int) < ((B s).size : Int) := by rw [B_size]; omega
   rw [if_pos (show decide ((i : Int) < ((B s).size : Int)) = true from decide_eq_true c2), B_bt he]
   refine ip c1 (ip c2 (cb (plain_ev _) rfl ?_))
   by_cases h1 : plainB s[i] = false
   ·rw [if_pos h1]
    exact ip (show (!plainB s[i]) = true by rw [h1]; rfl) rfl
   ·rw [if_neg h1]
    refine im (show ¬ (!plainB s[i]) = true by simpa using h1) (ip c1 (ip c2 ?_))
    have h34 : ((s[i].toNat : Int) != 34) = decide (s[i] ≠ 34) := by
     rw [Bool.eq_iff_iff, bne_iff_ne, decide_eq_true_eq]
     constructor
     ·intro h e; rw [e] at h; exact h rfl
     ·intro h e; exact h (UInt8.toNat_inj.1 (by show s[i].toNat = 34; omega))
    rw [h34]
    by_cases h2 : s[i] = 34
    ·rw [if_pos h2]
     refine im (by simp [h2]) ?_
     have en : IntKind.i64.wrap ((i : Int) + 1) = ((i + 1 : Nat) : Int) := nx he (by omega)
     rw [en]
     by_cases h3 : i + 1 < s.length
     ·have c3 : decide (((i + 1 : Nat) : Int) < ((B s).size : Int)) = true := by rw [decide_eq_true_eq, B_size]; omega
      have c4 : (0 : Int) ≤ ((i + 1 : Nat) : Int) := by omega
      have c5 : ((i + 1 : Nat) : Int) < ((B s).size : Int) := by rw [B_size]; omega
      rw [c3, bt34 h3]
      simp only [bs, tb, if_true, if_pos c4, if_pos c5]
      have eh : (s.drop (i + 1)).head? = some s[i + 1] := by rw [List.drop_eq_getElem_cons h3]; rfl
      have et : (s.drop (i + 1)).tail = s.drop (i + 2) := by rw [List.drop_eq_getElem_cons h3]; rfl
      rw [eh, et]
      by_cases h4 : s[i + 1] = 34
      ·rw [if_pos (by rw [h4])]
       refine ip (decide_eq_true h4) (hb (bwb_ev acc 34 (by omega)) rfl rfl ?_)
       have e2 : IntKind.i64.wrap (((i + 1 : Nat) : Int) + 1) = ((i + 2 : Nat) : Int) := nx h3 (by omega)
       rw [e2]
       refine (ih (i + 2) (acc ++ [34]) (by omega) (by omega) (by simp; omega)).trans ?_
       cases strL (s.drop (i + 2)) with
       | none => rfl
       | some r =>
        show some (strR (acc ++ [34]) (i + 2) (some r)) = some (strR acc i (some (34 :: r.1, r.2 + 2)))
        rw [strR_some, strR_some]
        rw [List.append_assoc, show i + 2 + r.2 = i + (r.2 + 2) by omega]; rfl
      ·rw [if_neg (fun h => h4 (Option.some.inj h))]
       refine im (by simpa using h4) (hb (bstr_ev acc) rfl rfl ?_)
       rw [strR_some, List.append_nil]; rfl
     ·have c3 : decide (((i + 1 : Nat) : Int) < ((B s).size : Int)) = false := by rw [decide_eq_false_iff_not, B_size]; omega
      rw [c3]
      simp only [bs, tb, Bool.false_eq_true, if_false]
      rw [List.drop_eq_nil_of_le (by omega), if_neg (by simp)]
      refine hb (bstr_ev acc) rfl rfl ?_
      rw [strR_some, List.append_nil]; rfl
    ·rw [if_neg h2]
     refine ip (decide_eq_true h2) (ip c1 (ip c2 (hb (bwb_ev acc s[i] (by omega)) rfl rfl ?_)))
     rw [nx he (by omega)]
     refine (ih (i + 1) (acc ++ [s[i]]) (by omega) (by omega) (by simp; omega)).trans ?_
     cases strL (s.drop (i + 1)) with
     | none => rfl
     | some r =>
      show some (strR (acc ++ [s[i]]) (i + 1) (some r)) = some (strR acc i (some (s[i] :: r.1, r.2 + 1)))
      rw [strR_some, strR_some]
      rw [List.append_assoc, show i + 1 + r.2 = i + (r.2 + 1) by omega]; rfl
  ·rw [f129.l0b_eq, List.drop_eq_nil_of_le (by omega)]
   exact im (by rw [decide_eq_true_eq, B_size]; omega) rfl
theorem str_ev (b : UInt8) (l : List UInt8) (hl : l.length ≤ 10000) : D 129 [.sc (.string (B (b :: l)))] = some (strR [] 1 (strL l)) := by
 rw [f129_eq 0, str_a]
 have := str_b (b :: l) (by simp; omega) (b :: l).length 1 [] (by simp) (by omega) (by simp)
 exact this
def sgs : List PV := sigs.map fun t => .sc (.string (B t))
theorem sgs_get {i : Nat} (h : i < sigs.length) : sgs.getD i .top = .sc (.string (B sigs[i])) := by unfold sgs; simp [h]
theorem pre_ev (s t : List UInt8) : D 132 [.sc (.string (B s)), .sc (.string (B t))] = some (.sc (.bool (t.isPrefixOf s))) := by
 have e : D 132 [.sc (.string (B s)), .sc (.string (B t))] = xHasPrefix [.sc (.string (B s)), .sc (.string (B t))] := (denI_eq 0 _ _).trans (by kernel_rfl)
 rw [e]; rfl
def sgnR : Option (List UInt8) → PV
 | none => .tup [tkp ⟨0, 0, [], 0⟩, .sc (.int .i64 0)]
 | some t => .tup [tkp ⟨4, 0, t, 0⟩, .sc (.int .i64 (t.length : Int))]
theorem sgn_l (s : List UInt8) : ∀ (d i : Nat), i + d = sigs.length → f78.l1a 0 (B s) 17 (fun i => sgs.getD i .top) 17 (i : Int) 0 0 EM 0 = some (sgnR ((sigs.drop i).find? (fun t => t.isPrefixOf s))) := by
 have hs : sigs.length = 17 := rfl
 intro d
 induction d with
 | zero =>
  intro i h
  rw [f78.l1a_eq, List.drop_eq_nil_of_le (by omega)]
  exact im (by rw [decide_eq_true_eq]; omega) rfl
 | succ d ih =>
  intro i h
  have hi : i < sigs.length := by omega
  rw [f78.l1a_eq, List.drop_eq_getElem_cons hi, List.find?_cons]
  rw [Int.toNat_natCast, sgs_get hi]
  refine ip (by rw [decide_eq_true_eq]; omega) (ip (by omega) (ip (by omega) (ip rfl (cb (pre_ev s sigs[i]) rfl ?_))))
  cases hp : sigs[i].isPrefixOf s
  ·refine im (by decide) ?_
   rw [nx (i := i) (n := 17) (by omega) (by decide)]
   exact ih (i + 1) (by omega)
  ·exact ip rfl rfl
theorem signs_ev : D 131 [.sc (.string (⟨#[35, 82, 69, 70, 32, 60, 62, 32, 60, 61, 32, 62, 61, 32, 43, 32, 45, 32, 42, 32, 47, 32, 94, 32, 38, 32, 61, 32, 60, 32, 62, 32, 40, 32, 41, 32, 44, 32, 58]⟩ : ByteArray))] = some (frozen 1 sgs) := denI_of (k := 2) (by kernel_rfl)
theorem word_l (s : List UInt8) (hl : s.length ≤ 100000) : ∀ (d i : Nat), i + d = s.length → 0 < i → f78.l0a 0 (B s) (i : Int) 0 0 EM 0 = some (.tup [tkp ⟨3, 0, s.take (i + runW (s.drop i)), 0⟩, .sc (.int .i64 ((i + runW (s.drop i) : Nat) : Int))]) := by
 have fin : ∀ (i : Nat), i ≤ s.length → 0 < i → ∀ c : Bool, c = false → (if c = true then f78.l0a 0 (B s) (IntKind.i64.wrap ((i : Int) + 1)) 0 0 EM 0 else
   if decide ((i : Int) > 0) = true then if 0 ≤ (i : Int) then if (i : Int) ≤ ((B s).size : Int) then if 0 ≤ (i : Int) then some (.tup [.agg [.sc (.int .i64 3), .sc (.int .i64 0), .sc (.string ((B s).extract 0 (i : Int).toNat)), .sc (.int .i64 0)], .sc (.int .i64 (i : Int))]) else none else none else none else
   (D 131 [.sc (.string (⟨#[35, 82, 69, 70, 32, 60, 62, 32, 60, 61, 32, 62, 61, 32, 43, 32, 45, 32, 42, 32, 47, 32, 94, 32, 38, 32, 61, 32, 60, 32, 62, 32, 40, 32, 41, 32, 44, 32, 58]⟩ : ByteArray))]).bind fun r12 => if hasSh (.lst 1) r12 = true then f78.l1a 0 (B s) r12.len r12.at (r12.len : Int) 0 0 0 EM 0 else none) = some (.tup [tkp ⟨3, 0, s.take i, 0⟩, .sc (.int .i64 (i : Int))]) := by
  intro i hi h0 c hc
  subst hc
  refine im (by decide) (ip (by rw [decide_eq_true_eq]; omega) (ip (by omega) (ip (by rw [B_size]; omega) (ip (by omega) ?_))))
  rw [take_ext]
  rfl
 intro d
 induction d with
 | zero =>
  intro i h h0
  rw [f78.l0a_eq]
  have c : decide ((i : Int) < ((B s).size : Int)) = false := by rw [decide_eq_false_iff_not, B_size]; omega
  rw [c, List.drop_eq_nil_of_le (by omega)]
  exact fin i (by omega) h0 false rfl
 | succ d ih =>
  intro i h h0
  have hi : i < s.length := by omega
  rw [f78.l0a_eq]
  have c1 : (0 : Int) ≤ (i : Int) := by omega
  have c2 : (i : Int) < ((B s).size : Int) := by rw [B_size]; omega
  have c : decide ((i : Int) < ((B s).size : Int)) = true := decide_eq_true c2
  have z : ((i : Int) == 0) = false := by rw [beq_eq_false_iff_ne]; omega
  rw [c, B_bt hi, z, List.drop_eq_getElem_cons hi, runW]
  simp only [inWord_ev, bs, shb, tb, if_true, if_pos c1, if_pos c2, Bool.false_eq_true, if_false]
  by_cases hw : wrdB s[i] = true
  ·rw [if_pos hw]
   refine ip hw ?_
   rw [nx hi (by omega), show i + (runW (s.drop (i + 1)) + 1) = i + 1 + runW (s.drop (i + 1)) by omega]
   exact ih (i + 1) (by omega) (by omega)
  ·have hw' : wrdB s[i] = false := by simpa using hw
   rw [if_neg hw]
   exact fin i (by omega) h0 _ hw'
/-- What next answers. -/
def nxR (t : Tk) (n : Nat) : PV := .tup [tkp t, .sc (.int .i64 (n : Int))]
theorem next_ev (b : UInt8) (l : List UInt8) (hl : l.length ≤ 10000) : ∃ t n, D 78 [.sc (.string (B (b :: l)))] = some (nxR t n) ∧ ((nextL (b :: l) = some (t, n) ∧ 0 < n) ∨ (nextL (b :: l) = none ∧ n = 0)) := by
 have hlen : (b :: l).length = l.length + 1 := rfl
 have c0 : (0 : Int) < ((B (b :: l)).size : Int) := by rw [B_size]; omega
 have hb0 : bt (B (b :: l)) 0 = (b.toNat : Int) := B_bt (l := b :: l) (i := 0) (by simp)
 have e1 : decide ((b.toNat : Int) ≥ 48) = decide (48 ≤ b.toNat) := decide_eq_decide.2 (by omega)
 have e2 : decide ((b.toNat : Int) ≤ 57) = decide (b.toNat ≤ 57) := decide_eq_decide.2 (by omega)
 rw [f78_eq 0, nextL, hb0, e1, e2]
 simp only [if_pos c0, bs, tb, bA]
 have ed : (decide (48 ≤ b.toNat) && decide (b.toNat ≤ 57)) = isD b := rfl
 rw [ed]
 by_cases hd : isD b = true
 ·rw [if_pos hd]
  have hld := lead_ev (l := b :: l) (by omega)
  have hp := leadn_pos (l := l) hd
  by_cases h : (leadL (b :: l)).2.2 = true
  ·refine ⟨⟨1, 0, [], (leadL (b :: l)).1⟩, leadn (b :: l), ?_, Or.inl ⟨by rw [if_pos h], hp⟩⟩
   refine ip hd (cb hld rfl ?_)
   have e3 : (leadL (b :: l)).2.1 = (leadn (b :: l) : Int) := by
    unfold leadL at h ⊢
    split at h
    ·rename_i hh; rw [if_pos hh]
    ·cases h
   show some (PV.tup [.agg [.sc (.int .i64 1), .sc (.int .i64 0), .sc (.string EM), .sc (.int .i64 (leadL (b :: l)).1)], .sc (.int .i64 (leadL (b :: l)).2.1)]) = _
   rw [e3]
   rfl
  ·refine ⟨⟨1, 0, [], 0⟩, 0, ?_, Or.inr ⟨by rw [if_neg h], rfl⟩⟩
   refine ip hd (cb hld rfl ?_)
   have e3 : leadL (b :: l) = (0, 0, false) := by
    unfold leadL at h ⊢
    split at h
    ·exact absurd rfl h
    ·rename_i hh; rw [if_neg hh]
   rw [e3]
   rfl
 ·rw [if_neg hd]
  by_cases h2 : b = 34
  ·rw [if_pos h2]
   have hs := str_ev b l hl
   refine ⟨⟨2, 0, ((strL l).getD ([], 0)).1, 0⟩, (match strL l with | none => 0 | some r => r.2 + 1), ?_, ?_⟩
   ·refine im hd (ip (by rw [h2]; rfl) (cb hs ?_ ?_))
    ·cases strL l <;> rfl
    ·cases strL l with
     | none => rfl
     | some r =>
      rw [strR_some, show 1 + r.2 = r.2 + 1 by omega]; rfl
   ·cases strL l with
    | none => exact Or.inr ⟨rfl, rfl⟩
    | some r => exact Or.inl ⟨rfl, Nat.succ_pos _⟩
  ·rw [if_neg h2]
   have hne : ¬ ((b.toNat : Int) == 34) = true := by
    rw [beq_iff_eq]; intro e
    exact h2 (UInt8.toNat_inj.1 (by show b.toNat = 34; omega))
   by_cases h3 : uppB b = true
   ·rw [if_pos h3]
    refine ⟨_, _, ?_, Or.inl ⟨rfl, Nat.succ_pos _⟩⟩
    refine im hd (im hne ?_)
    rw [f78.l0a_eq, hb0]
    have c : decide ((0 : Int) < ((B (b :: l)).size : Int)) = true := decide_eq_true c0
    have c1 : (0 : Int) ≤ 0 := Int.le_refl _
    have z : ((0 : Int) == 0) = true := rfl
    rw [c, z]
    simp only [inWord_ev, bs, shb, tb, if_true, if_pos c1, if_pos c0]
    refine ip h3 ?_
    have := word_l (b :: l) (by omega) l.length 1 (by omega) (by decide)
    rw [show IntKind.i64.wrap ((0 : Int) + 1) = ((1 : Nat) : Int) from rfl, this]
    unfold nxR
    rw [show 1 + runW ((b :: l).drop 1) = runW l + 1 by rw [Nat.add_comm]; rfl, List.take_succ_cons]
   ·rw [if_neg h3]
    have hsg := sgn_l (b :: l) 17 0 rfl
    rw [List.drop_zero] at hsg
    refine ⟨(match signL (b :: l) with | none => ⟨0, 0, [], 0⟩ | some t => ⟨4, 0, t, 0⟩), (match signL (b :: l) with | none => 0 | some t => t.length), ?_, ?_⟩
    ·refine im hd (im hne ?_)
     rw [f78.l0a_eq, hb0]
     have c : decide ((0 : Int) < ((B (b :: l)).size : Int)) = true := decide_eq_true c0
     have c1 : (0 : Int) ≤ 0 := Int.le_refl _
     have z : ((0 : Int) == 0) = true := rfl
     rw [c, z]
     simp only [inWord_ev, bs, shb, tb, if_true, if_pos c1, if_pos c0]
     refine im h3 (im (by decide) (cb signs_ev rfl ?_))
     refine Eq.trans hsg ?_
     show some (sgnR (signL (b :: l))) = _
     cases signL (b :: l) <;> rfl
    ·cases hsl : signL (b :: l) with
     | none => exact Or.inr ⟨rfl, rfl⟩
     | some t => exact Or.inl ⟨rfl, (sigs_len (sign_pre hsl).2).1⟩
def errR (a e : Int) : PV := .tup [.lst 4 0 (fun _ => .top), .sc (.int .i64 a), .sc (.int .i64 e)]
def okR (l : List Tk) : PV := .tup [frozen 4 (tp l), .sc (.int .i64 0), .sc (.int .i64 0)]
def lexR (ts : List Tk) : Nat ⊕ List Tk → PV
 | .inl e => errR e 1
 | .inr l => okR (ts ++ l)
theorem bt_32 {l : List UInt8} {i : Nat} (h : i < l.length) : (bt (B l) (i : Int) == 32) = decide (l[i] = 32) := by
 rw [B_bt h, Bool.eq_iff_iff, beq_iff_eq, decide_eq_true_eq]
 constructor
 ·intro e; exact UInt8.toNat_inj.1 (by show l[i].toNat = 32; omega)
 ·intro e; rw [e]; rfl
theorem ext_drop (s : List UInt8) (i : Nat) : (B s).extract (i : Int).toNat ((B s).size : Int).toNat = B (s.drop i) := by
 rw [Int.toNat_natCast, Int.toNat_natCast, B_extract, B_size]
 congr 1
 apply List.take_of_length_le
 rw [List.length_drop]; omega
theorem lex_b (s : List UInt8) (hl : s.length ≤ 1000) : ∀ (d a : Nat) (ts : List Tk), a ≤ s.length → s.length - a ≤ d → ts.length ≤ a → f40.l0b 0 (B s) (a : Int) (tp ts) = some (lexR ts (lexL a (s.drop a))) := by
 have stop : ∀ (a : Nat) (ts : List Tk), a = s.length → ts.length ≤ a → f40.l0b 0 (B s) (a : Int) (tp ts) = some (lexR ts (lexL a (s.drop a))) := by
  intro a ts ha ht
  rw [f40.l0b_eq, List.drop_eq_nil_of_le (by omega), lexL_nil]
  refine im (by rw [decide_eq_true_eq, B_size]; omega) (ip (by rw [tp_len]; simp; omega) ?_)
  show _ = some (okR (ts ++ [⟨5, a, [], 0⟩]))
  unfold okR
  rw [← tp_app]
  rw [B_size, ← ha]; rfl
 intro d
 induction d with
 | zero => intro a ts ha hd ht; exact stop a ts (by omega) ht
 | succ d ih =>
  intro a ts ha hd ht
  by_cases hi : a < s.length
  ·rw [f40.l0b_eq]
   have c1 : (0 : Int) ≤ (a : Int) := by omega
   have c2 : (a : Int) < ((B s).size : Int) := by rw [B_size]; omega
   refine ip (decide_eq_true c2) (ip c1 (ip c2 ?_))
   by_cases hb : s[a] = 32
   ·refine ip (by rw [bt_32 hi]; exact decide_eq_true hb) ?_
    rw [nx hi (by omega), List.drop_eq_getElem_cons hi, hb, lexL_blank]
    exact ih (a + 1) ts (by omega) (by omega) (by omega)
   ·refine im (by rw [bt_32 hi]; simpa using hb) (ip (by omega) (ip (Int.le_refl _) (ip c1 (ip (by omega) ?_))))
    rw [ext_drop]
    have ed := List.drop_eq_getElem_cons hi
    obtain ⟨t, n, e1, e2⟩ := next_ev s[a] (s.drop (a + 1)) (by rw [List.length_drop]; omega)
    rw [← ed] at e1 e2
    refine cb e1 rfl ?_
    rcases e2 with ⟨e2, hn⟩ | ⟨e2, hn⟩
    ·refine im (show ¬ ((n : Int) == 0) = true by rw [beq_iff_eq]; omega) (ip (by rw [tp_len]; simp; omega) ?_)
     have hle := (next_le e2).2
     rw [List.length_drop] at hle
     rw [ed] at e2
     rw [ed, lexL_tok hb e2, ← ed, List.drop_drop]
     have ew : IntKind.i64.wrap ((a : Int) + (n : Int)) = ((a + n : Nat) : Int) := by rw [w64 (by omega) (by omega)]; omega
     have := ih (a + n) (ts ++ [t.put a]) (by omega) (by omega) (by simp; omega)
     rw [← tp_app] at this
     show f40.l0b 0 (B s) (IntKind.i64.wrap ((a : Int) + (n : Int))) (tp ts ++ [tkp (t.put a)]) = _
     rw [ew, this]
     cases lexL (a + n) (s.drop (a + n)) with
     | inl e => rfl
     | inr r =>
      show some (okR (ts ++ [t.put a] ++ r)) = some (okR (ts ++ (t.put a :: r)))
      rw [List.append_assoc]; rfl
    ·subst hn
     refine ip rfl ?_
     rw [ed] at e2
     rw [ed, lexL_bad hb e2]
     rfl
  ·exact stop a ts (by omega) ht
theorem lex_a (s : List UInt8) (hl : s.length ≤ 1000) : ∀ (d a : Nat), a ≤ s.length → s.length - a ≤ d → f40.l0a 0 (B s) (a : Int) = some (lexR [] (lexL a (s.drop a))) := by
 have stop : ∀ (a : Nat), a = s.length → f40.l0a 0 (B s) (a : Int) = some (lexR [] (lexL a (s.drop a))) := by
  intro a ha
  rw [f40.l0a_eq, List.drop_eq_nil_of_le (by omega), lexL_nil]
  refine im (by rw [decide_eq_true_eq, B_size]; omega) (ip (by simp) ?_)
  rw [B_size, ← ha]; rfl
 intro d
 induction d with
 | zero => intro a ha hd; exact stop a (by omega)
 | succ d ih =>
  intro a ha hd
  by_cases hi : a < s.length
  ·rw [f40.l0a_eq]
   have c1 : (0 : Int) ≤ (a : Int) := by omega
   have c2 : (a : Int) < ((B s).size : Int) := by rw [B_size]; omega
   refine ip (decide_eq_true c2) (ip c1 (ip c2 ?_))
   by_cases hb : s[a] = 32
   ·refine ip (by rw [bt_32 hi]; exact decide_eq_true hb) ?_
    rw [nx hi (by omega), List.drop_eq_getElem_cons hi, hb, lexL_blank]
    exact ih (a + 1) (by omega) (by omega)
   ·refine im (by rw [bt_32 hi]; simpa using hb) (ip (by omega) (ip (Int.le_refl _) (ip c1 (ip (by omega) ?_))))
    rw [ext_drop]
    have ed := List.drop_eq_getElem_cons hi
    obtain ⟨t, n, e1, e2⟩ := next_ev s[a] (s.drop (a + 1)) (by rw [List.length_drop]; omega)
    rw [← ed] at e1 e2
    refine cb e1 rfl ?_
    rcases e2 with ⟨e2, hn⟩ | ⟨e2, hn⟩
    ·refine im (show ¬ ((n : Int) == 0) = true by rw [beq_iff_eq]; omega) (ip (by simp) ?_)
     have hle := (next_le e2).2
     rw [List.length_drop] at hle
     rw [ed] at e2
     rw [ed, lexL_tok hb e2, ← ed, List.drop_drop]
     have ew : IntKind.i64.wrap ((a : Int) + (n : Int)) = ((a + n : Nat) : Int) := by rw [w64 (by omega) (by omega)]; omega
     have := lex_b s hl s.length (a + n) [t.put a] (by omega) (by omega) (by simp; omega)
     show f40.l0b 0 (B s) (IntKind.i64.wrap ((a : Int) + (n : Int))) (tp [t.put a]) = _
     rw [ew, this]
     cases lexL (a + n) (s.drop (a + n)) with
     | inl e => rfl
     | inr r => rfl
    ·subst hn
     refine ip rfl ?_
     rw [ed] at e2
     rw [ed, lexL_bad hb e2]
     rfl
  ·exact stop a (by omega)
def lexS (s : List UInt8) : PV := if s.length ≤ 200 then lexR [] (lexL 0 s) else errR 0 3
theorem lex_ev (s : List UInt8) : D 40 [.sc (.string (B s))] = some (lexS s) := by
 rw [f40_eq 0]
 unfold lexS
 by_cases h : s.length ≤ 200
 ·rw [if_pos h]
  refine im (by rw [decide_eq_true_eq, B_size]; omega) ?_
  have := lex_a s (by omega) s.length 0 (Nat.zero_le _) (by omega)
  rw [List.drop_zero] at this
  exact this
 ·rw [if_neg h]
  exact ip (by rw [decide_eq_true_eq, B_size]; omega) rfl
end Go.Den.ET
/- Trees as values: the plain part. -/
set_option linter.unusedVariables false
set_option linter.unusedSimpArgs false
namespace Go.Den
open Go Go.Proofs
abbrev shN : Sh := .agg [(.int .i64), (.int .i64), (.int .i64), (.int .i64), .str, (.int .i64), (.int .i64), .bool, .bool, (.int .i64), (.int .i64), .bool, .bool, (.lst 14)]
structure Rf where
 row : Int
 col : Int
 hr : Bool
 hc : Bool
structure Vl where
 kind : Int
 num : Int
 text : ByteArray
inductive Nod where
 | mk (kind op : Int) (v : Vl) (a b : Rf) (l : List Nod)
mutual
def Nod.pv : Nod → PV
 | .mk kind op v a b l => .agg [.sc (.int .i64 kind), .sc (.int .i64 op), .sc (.int .i64 v.kind), .sc (.int .i64 v.num), .sc (.string v.text), .sc (.int .i64 a.row), .sc (.int .i64 a.col), .sc (.bool a.hr), .sc (.bool a.hc), .sc (.int .i64 b.row), .sc (.int .i64 b.col), .sc (.bool b.hr), .sc (.bool b.hc), frozen 14 (pvs l)]
def pvs : List Nod → List PV
 | [] => []
 | n :: l => n.pv :: pvs l
end
theorem pvs_map : ∀ l : List Nod, pvs l = l.map Nod.pv
 | [] => rfl
 | n :: l => by rw [pvs, pvs_map l]; rfl
theorem pvs_len (l : List Nod) : (pvs l).length = l.length := by rw [pvs_map]; simp
theorem pvs_get {l : List Nod} {i : Nat} (h : i < l.length) : (pvs l).getD i .top = l[i].pv := by rw [pvs_map]; simp [h]
theorem pvs_app (l m : List Nod) : pvs (l ++ m) = pvs l ++ pvs m := by simp [pvs_map]
def rbN (x : PV) : PV := .agg [.sc (.int .i64 ((cel 0 x.cells).toInt)), .sc (.int .i64 ((cel 1 x.cells).toInt)), .sc (.int .i64 ((cel 2 x.cells).toInt)), .sc (.int .i64 ((cel 3 x.cells).toInt)), .sc (.string ((cel 4 x.cells).toStr)), .sc (.int .i64 ((cel 5 x.cells).toInt)), .sc (.int .i64 ((cel 6 x.cells).toInt)), .sc (.bool ((cel 7 x.cells).toBool)), .sc (.bool ((cel 8 x.cells).toBool)), .sc (.int .i64 ((cel 9 x.cells).toInt)), .sc (.int .i64 ((cel 10 x.cells).toInt)), .sc (.bool ((cel 11 x.cells).toBool)), .sc (.bool ((cel 12 x.cells).toBool)), .lst 14 ((cel 13 x.cells).len) ((cel 13 x.cells).at)]
theorem rb_pv (n : Nod) : rbN n.pv = n.pv := by
 cases n
 simp only [Nod.pv]
 rfl
theorem sh_pv (n : Nod) : hasSh shN n.pv = true := by
 cases n
 simp [Nod.pv, hasSh, hasShL, PV.isInt, PV.isBool, PV.isStr, PV.isLst, frozen]
mutual
def Nod.count : Nod → Nat
 | .mk _ _ _ _ _ l => counts l + 1
def counts : List Nod → Nat
 | [] => 0
 | n :: l => n.count + counts l
end
mutual
def Nod.list : Nod → List Nod
 | .mk kind op v a b l => .mk kind op v a b l :: lists l
def lists : List Nod → List Nod
 | [] => []
 | n :: l => n.list ++ lists l
end
mutual
def Nod.deep : Nod → Nat
 | .mk _ _ _ _ _ l => deeps l + 1
def deeps : List Nod → Nat
 | [] => 0
 | n :: l => max n.deep (deeps l)
end
mutual
theorem list_len : ∀ n : Nod, n.list.length = n.count
 | .mk _ _ _ _ _ l => by rw [Nod.list, Nod.count, List.length_cons, lists_len l]
theorem lists_len : ∀ l : List Nod, (lists l).length = counts l
 | [] => rfl
 | n :: l => by rw [lists, counts, List.length_append, list_len n, lists_len l]
end
mutual
theorem deep_le : ∀ n : Nod, n.deep ≤ n.count
 | .mk _ _ _ _ _ l => by rw [Nod.deep, Nod.count]; have := deeps_le l; omega
theorem deeps_le : ∀ l : List Nod, deeps l ≤ counts l
 | [] => Nat.le_refl _
 | n :: l => by rw [deeps, counts]; have := deep_le n; have := deeps_le l; omega
end
theorem count_mem {n : Nod} : ∀ {l : List Nod}, n ∈ l → n.count ≤ counts l
 | [], h => by cases h
 | m :: l, h => by
  rw [counts]
  rcases List.mem_cons.1 h with rfl | h
  ·omega
  ·have := count_mem h; omega
theorem drop_cons {α : Type} {l : List α} {i : Nat} (h : i < l.length) : l.drop i = l[i] :: l.drop (i + 1) := (List.getElem_cons_drop h).symm
theorem len_counts : ∀ l : List Nod, l.length ≤ counts l
 | [] => Nat.le_refl _
 | .mk _ _ _ _ _ m :: l => by rw [counts, List.length_cons, Nod.count]; have := len_counts l; omega
mutual
def Nod.ok : Nod → Prop
 | .mk _ _ v _ _ l => (v.text.size ≤ 9223372036854775807 ∧ I64 v.num) ∧ oks l ∧ l.length * 120 ≤ 140737488351232
def oks : List Nod → Prop
 | [] => True
 | n :: l => n.ok ∧ oks l
end
theorem oks_mem {n : Nod} : ∀ {l : List Nod}, oks l → n ∈ l → n.ok
 | [], _, h => by cases h
 | m :: l, ho, h => by
  rw [oks] at ho
  rcases List.mem_cons.1 h with rfl | h
  ·exact ho.1
  ·exact oks_mem ho.2 h
def Rf.pv (r : Rf) : PV := .agg [.sc (.int .i64 r.row), .sc (.int .i64 r.col), .sc (.bool r.hr), .sc (.bool r.hc)]
def zR : Rf := ⟨0, 0, false, false⟩
def zV : Vl := ⟨0, 0, ⟨#[]⟩⟩
end Go.Den
/- The parser, plain. -/
set_option linter.unusedVariables false
set_option linter.unusedSimpArgs false
namespace Go.Den
open Go Go.Proofs
def isU (b : UInt8) : Bool := decide (65 ≤ b.toNat) && decide (b.toNat ≤ 90)
def runU : List UInt8 → Nat
 | [] => 0
 | b :: l => if isU b = true then runU l + 1 else 0
def colN (l : List UInt8) : Nat := l.foldl (fun n b => n * 26 + (b.toNat - 65) + 1) 0
def rowN (l : List UInt8) : Nat := l.foldl (fun n b => n * 10 + (b.toNat - 48)) 0
def colL (l : List UInt8) : Option Int := if (1 ≤ l.length ∧ l.length ≤ 2) ∧ l.all isU = true then some ((colN l : Int) - 1) else none
def rowL (l : List UInt8) : Option Int := if (1 ≤ l.length ∧ l.length ≤ 3) ∧ l.head? ≠ some 48 ∧ l.all isD = true then some ((rowN l : Int) - 1) else none
def cutD (t : List UInt8) : List UInt8 × Bool := match t with
 | [] => ([], false)
 | b :: l => if b = 36 then (l, true) else (b :: l, false)
/-- The reference of a cell's text. -/
def refP (t : List UInt8) : Option Rf :=
 let u := (cutD t).1
 let v := cutD (u.drop (runU u))
 match colL (u.take (runU u)), rowL v.1 with
 | some c, some r => some ⟨r, c, v.2, (cutD t).2⟩
 | _, _ => none
/-- The operators of a level. -/
def lvls (level : Nat) (s : List UInt8) : Nat := match level with
 | 1 => if s = [61] then 7 else if s = [60, 62] then 8 else if s = [60] then 9 else if s = [60, 61] then 10 else if s = [62] then 11 else if s = [62, 61] then 12 else 0
 | 2 => if s = [38] then 6 else 0
 | 3 => if s = [43] then 1 else if s = [45] then 2 else 0
 | 4 => if s = [42] then 3 else if s = [47] then 4 else 0
 | 5 => if s = [94] then 5 else 0
 | _ => 0
def sgT (x : List UInt8) (ts : List Tk) : Bool := match ts with
 | [] => false
 | t :: _ => t.kind == 4 && t.text == x
def litN (v : Vl) : Nod := .mk 1 0 v zR zR []
def lostN : Nod := .mk 2 0 zV zR zR []
def oneN (r : Rf) : Nod := .mk 3 0 zV r zR []
def rangeN (a b : Rf) : Nod := .mk 4 0 zV a b []
def negN (n : Nod) : Nod := .mk 5 0 zV zR zR [n]
def binN (op : Nat) (a b : Nod) : Nod := .mk 6 op zV zR zR [a, b]
def callN (f : Int) (l : List Nod) : Nod := .mk 7 f zV zR zR l
/-- What is to be read. -/
inductive Go1 where
 | B (level : Nat)
 | L (level : Nat) (n : Nod)
 | S
 | A
 | W (w : List UInt8)
 | R (f : Int) (l : List Nod)
 | G
abbrev PR := Option (Nod × List Tk)
def wordL : List UInt8 := [84, 82, 85, 69]
def wordF : List UInt8 := [70, 65, 76, 83, 69]
variable (fnum : List UInt8 → Int)
/-- A range at the beginning: none: there is none; some none: it is wrong. -/
def rngP (ts : List Tk) : Option PR := match ts with
 | [] => none
 | t :: r => match (if t.kind = 3 then refP t.text else none) with
  | none => none
  | some a => if sgT [58] r = true then some (match r.tail with
   | [] => none
   | u :: r' => if u.kind = 3 then (refP u.text).map (fun b => (rangeN a b, r')) else none) else none
def pX : Nat → Go1 → List Tk → PR
 | 0, _, _ => none
 | F + 1, .B level, ts => if 5 < level then pX F .S ts else match pX F (.B (level + 1)) ts with
  | none => none
  | some (n, r) => pX F (.L level n) r
 | F + 1, .L level n, ts => match ts with
  | [] => none
  | t :: r => if t.kind = 4 ∧ lvls level t.text ≠ 0 then (match pX F (.B (level + 1)) r with
    | none => none
    | some (m, r') => pX F (.L level (binN (lvls level t.text) n m)) r') else some (n, t :: r)
 | F + 1, .S, ts => if sgT [45] ts = true then (pX F .S ts.tail).map (fun x => (negN x.1, x.2)) else pX F .A ts
 | F + 1, .A, ts => match ts with
  | [] => none
  | t :: r => if t.kind = 1 then some (litN ⟨1, t.num, ⟨#[]⟩⟩, r) else if t.kind = 2 then some (litN ⟨2, 0, ⟨t.text.toArray⟩⟩, r) else if t.kind = 3 then pX F (.W t.text) r
   else if sgT [35, 82, 69, 70] (t :: r) = true then some (lostN, r) else if sgT [40] (t :: r) = true then (match pX F (.B 1) r with
    | none => none
    | some (n, u) => if sgT [41] u = true then some (n, u.tail) else none) else none
 | F + 1, .W w, ts => if sgT [40] ts = true then (if sgT [41] ts.tail = true then some (callN (fnum w) [], ts.tail.tail) else pX F (.R (fnum w) []) ts.tail)
   else if w = wordL then some (litN ⟨3, 1, ⟨#[]⟩⟩, ts) else if w = wordF then some (litN ⟨3, 0, ⟨#[]⟩⟩, ts) else (refP w).map (fun r => (oneN r, ts))
 | F + 1, .R f l, ts => match pX F .G ts with
  | none => none
  | some (n, u) => if sgT [41] u = true then some (callN f (l ++ [n]), u.tail) else if sgT [44] u = true then pX F (.R f (l ++ [n])) u.tail else none
 | F + 1, .G, ts => match rngP ts with
  | some x => x
  | none => pX F (.B 1) ts
/-- How much is enough. -/
def need : Go1 → List Tk → Nat
 | .B level, ts => 16 * ts.length + 14 - level
 | .L _ _, ts => 16 * ts.length + 1
 | .S, ts => 16 * ts.length + 7
 | .A, ts => 16 * ts.length + 6
 | .W _, ts => 16 * ts.length + 16
 | .R _ _, ts => 16 * ts.length + 15
 | .G, ts => 16 * ts.length + 14
theorem sgT_cons {x : List UInt8} {ts : List Tk} (h : sgT x ts = true) : ∃ t r, ts = t :: r ∧ t.kind = 4 ∧ t.text = x := by
 unfold sgT at h
 split at h
 ·cases h
 ·rename_i t r
  rw [Bool.and_eq_true, beq_iff_eq, beq_iff_eq] at h
  exact ⟨t, r, rfl, h.1, h.2⟩
theorem rng_suf {ts : List Tk} {n : Nod} {r : List Tk} (h : rngP ts = some (some (n, r))) : r <:+ ts ∧ r.length < ts.length := by
 unfold rngP at h
 split at h
 ·cases h
 ·rename_i t r0
  split at h
  ·cases h
  ·rename_i a ha
   split at h
   ·have h := Option.some.inj h
    split at h
    ·cases h
    ·rename_i u r1 hu
     split at h
     ·obtain ⟨b, _, e⟩ := Option.map_eq_some_iff.1 h
      cases e
      have h3 : r <:+ r0.tail := by rw [hu]; exact List.suffix_cons _ _
      have h4 : r0.tail <:+ r0 := List.tail_suffix r0
      have h5 := (h3.trans h4)
      refine ⟨h5.trans (List.suffix_cons _ _), ?_⟩
      have := h5.length_le
      simp only [List.length_cons]; omega
     ·cases h
   ·cases h
theorem pX_suf : ∀ (F : Nat) (g : Go1) (ts : List Tk) (n : Nod) (r : List Tk), pX fnum F g ts = some (n, r) → r <:+ ts
 | 0, g, ts, n, r, h => by unfold pX at h; cases h
 | F + 1, .B level, ts, n, r, h => by
  have IH := pX_suf F
  rw [pX] at h
  split at h
  ·exact IH _ _ _ _ h
  ·split at h
   ·cases h
   ·rename_i m r' h'
    exact (IH _ _ _ _ h).trans (IH _ _ _ _ h')
 | F + 1, .L level m, ts, n, r, h => by
  have IH := pX_suf F
  rw [pX.eq_def] at h
  dsimp only at h
  split at h
  ·cases h
  ·rename_i t r0
   split at h
   ·split at h
    ·cases h
    ·rename_i m r' h'
     exact ((IH _ _ _ _ h).trans (IH _ _ _ _ h')).trans (List.suffix_cons _ _)
   ·cases h; exact List.suffix_refl _
 | F + 1, .S, ts, n, r, h => by
  have IH := pX_suf F
  rw [pX] at h
  split at h
  ·obtain ⟨x, h', e⟩ := Option.map_eq_some_iff.1 h
   obtain ⟨x1, x2⟩ := x
   cases e
   exact (IH _ _ _ _ h').trans (List.tail_suffix _)
  ·exact IH _ _ _ _ h
 | F + 1, .A, ts, n, r, h => by
  have IH := pX_suf F
  rw [pX.eq_def] at h
  dsimp only at h
  split at h
  ·cases h
  ·rename_i t r0
   split at h
   ·cases h; exact List.suffix_cons _ _
   split at h
   ·cases h; exact List.suffix_cons _ _
   split at h
   ·exact (IH _ _ _ _ h).trans (List.suffix_cons _ _)
   split at h
   ·cases h; exact List.suffix_cons _ _
   split at h
   ·split at h
    ·cases h
    ·rename_i m u h'
     split at h
     ·cases h
      exact ((List.tail_suffix _).trans (IH _ _ _ _ h')).trans (List.suffix_cons _ _)
     ·cases h
   ·cases h
 | F + 1, .W w, ts, n, r, h => by
  have IH := pX_suf F
  rw [pX] at h
  split at h
  ·split at h
   ·cases h
    exact (List.tail_suffix _).trans (List.tail_suffix _)
   ·exact (IH _ _ _ _ h).trans (List.tail_suffix _)
  split at h
  ·cases h; exact List.suffix_refl _
  split at h
  ·cases h; exact List.suffix_refl _
  obtain ⟨x, _, e⟩ := Option.map_eq_some_iff.1 h
  cases e
  exact List.suffix_refl _
 | F + 1, .R f l, ts, n, r, h => by
  have IH := pX_suf F
  rw [pX] at h
  split at h
  ·cases h
  ·rename_i m u h'
   split at h
   ·cases h
    exact (List.tail_suffix _).trans (IH _ _ _ _ h')
   split at h
   ·exact ((IH _ _ _ _ h).trans (List.tail_suffix _)).trans (IH _ _ _ _ h')
   ·cases h
 | F + 1, .G, ts, n, r, h => by
  have IH := pX_suf F
  rw [pX] at h
  split at h
  ·rename_i x hx
   subst h
   exact (rng_suf hx).1
  ·exact IH _ _ _ _ h
end Go.Den
/- Which trees are right: the plain part. -/
set_option linter.unusedVariables false
set_option linter.unusedSimpArgs false
namespace Go.Den
open Go Go.Proofs
def tb8 (t : ByteArray) : List UInt8 := t.data.toList
/-- The functions: name; from how many to how many arguments, and their kinds. -/
def fnRows : List (List UInt8 × List UInt8) := [([65, 66, 83], [49, 49, 118]), ([65, 78, 68], [49, 56, 101]), ([65, 86, 69, 82, 65, 71, 69], [49, 56, 108]), ([65, 86, 69, 82, 65, 71, 69, 73, 70], [50, 50, 114, 118]), ([67, 69, 73, 76, 73, 78, 71], [50, 50, 118]), ([67, 72, 65, 82], [49, 49, 118]), ([67, 72, 79, 79, 83, 69], [50, 56, 101]), ([67, 79, 68, 69], [49, 49, 118]), ([67, 79, 76, 85, 77, 78], [49, 49, 110]), ([67, 79, 76, 85, 77, 78, 83], [49, 49, 110]), ([67, 79, 77, 66, 73, 78], [50, 50, 118]), ([67, 79, 78, 67, 65, 84], [49, 56, 108]), ([67, 79, 85, 78, 84], [49, 56, 108]), ([67, 79, 85, 78, 84, 65], [49, 56, 108]), ([67, 79, 85, 78, 84, 66, 76, 65, 78, 75], [49, 56, 108]), ([67, 79, 85, 78, 84, 73, 70], [50, 50, 114, 118]), ([68, 69, 67, 76, 65, 83, 83], [50, 50, 101, 116]), ([69, 86, 69, 78], [49, 49, 118]), ([69, 88, 65, 67, 84], [50, 50, 118]), ([70, 65, 67, 84], [49, 49, 118]), ([70, 73, 78, 68], [50, 50, 118]), ([70, 76, 79, 79, 82], [50, 50, 118]), ([71, 67, 68], [50, 50, 118]), ([72, 76, 79, 79, 75, 85, 80], [51, 51, 118, 114, 118]), ([73, 70], [50, 51, 101]), ([73, 70, 69, 82, 82, 79, 82], [50, 50, 101]), ([73, 78, 68, 69, 88], [50, 51, 114, 118]), ([73, 78, 84], [49, 49, 118]), ([73, 83, 66, 76, 65, 78, 75], [49, 49, 118]), ([73, 83, 69, 82, 82, 79, 82], [49, 49, 118]), ([73, 83, 76, 79, 71, 73, 67, 65, 76], [49, 49, 118]), ([73, 83, 78, 85, 77, 66, 69, 82], [49, 49, 118]), ([73, 83, 84, 69, 88, 84], [49, 49, 118]), ([76, 65, 82, 71, 69], [50, 50, 114, 118]), ([76, 67, 77], [50, 50, 118]), ([76, 69, 70, 84], [50, 50, 118]), ([76, 69, 78], [49, 49, 118]), ([76, 79, 87, 69, 82], [49, 49, 118]), ([77, 65, 84, 67, 72], [50, 50, 118, 114]), ([77, 65, 88], [49, 56, 108]), ([77, 69, 68, 73, 65, 78], [49, 56, 108]), ([77, 73, 68], [51, 51, 118]), ([77, 73, 78], [49, 56, 108]), ([77, 79, 68], [50, 50, 118]), ([77, 79, 68, 69], [49, 56, 108]), ([78, 65], [48, 48]), ([78, 79, 84], [49, 49, 118]), ([79, 68, 68], [49, 49, 118]), ([79, 82], [49, 56, 101]), ([80, 79, 87, 69, 82], [50, 50, 118]), ([80, 82, 79, 68, 85, 67, 84], [49, 56, 108]), ([80, 82, 79, 80, 69, 82], [49, 49, 118]), ([81, 85, 79, 84, 73, 69, 78, 84], [50, 50, 118]), ([82, 65, 78, 75], [50, 50, 118, 114]), ([82, 69, 80, 84], [50, 50, 118]), ([82, 69, 86, 69, 82, 83, 69], [49, 49, 118]), ([82, 73, 71, 72, 84], [50, 50, 118]), ([82, 79, 85, 78, 68], [50, 50, 118]), ([82, 79, 85, 78, 68, 68, 79, 87, 78], [50, 50, 118]), ([82, 79, 85, 78, 68, 85, 80], [50, 50, 118]), ([82, 79, 87], [49, 49, 110]), ([82, 79, 87, 83], [49, 49, 110]), ([83, 73, 71, 78], [49, 49, 118]), ([83, 77, 65, 76, 76], [50, 50, 114, 118]), ([83, 81, 82, 84], [49, 49, 118]), ([83, 85, 66, 83, 84, 73, 84, 85, 84, 69], [51, 51, 118]), ([83, 85, 77], [49, 56, 108]), ([83, 85, 77, 73, 70], [50, 50, 114, 118]), ([83, 85, 77, 80, 82, 79, 68, 85, 67, 84], [50, 50, 114]), ([83, 85, 77, 83, 81], [49, 56, 108]), ([83, 87, 73, 84, 67, 72], [51, 56, 101]), ([84, 69, 88, 84], [50, 50, 118]), ([84, 82, 73, 77], [49, 49, 118]), ([84, 82, 85, 78, 67], [49, 49, 118]), ([85, 80, 80, 69, 82], [49, 49, 118]), ([86, 65, 76, 85, 69], [49, 49, 118]), ([86, 76, 79, 79, 75, 85, 80], [51, 51, 118, 114, 118]), ([88, 79, 82], [49, 56, 108])]
/-- A function's row; empty: there is none. -/
def rowP (fn : Int) : List UInt8 × List UInt8 := if 1 ≤ fn ∧ fn ≤ 78 then fnRows.getD (fn.toNat - 1) ([], []) else ([], [])
def fitsF (fn : Int) (n : Nat) : Bool := match (rowP fn).2 with
 | a :: b :: _ => decide (a.toNat - 48 ≤ n) && decide (n ≤ b.toNat - 48)
 | _ => false
def kindF (fn : Int) (i : Nat) : UInt8 := match (rowP fn).2 with
 | a :: b :: r => if b.toNat - 48 ≤ i then 0 else (a :: b :: r).getD (min (2 + i) (r.length + 1)) 0
 | _ => 0
def findF : List (List UInt8 × List UInt8) → Nat → List UInt8 → Nat
 | [], _, _ => 0
 | r :: l, k, w => if r.1 = w then k else findF l (k + 1) w
/-- The number of a function's name; 0: there is none. -/
def fnumP (w : List UInt8) : Int := (findF fnRows 1 w : Nat)
def refM (r : Rf) : Bool := decide (0 ≤ r.row) && decide (r.row < 999) && decide (0 ≤ r.col) && decide (r.col < 702)
def isZR (r : Rf) : Bool := r.row == 0 && r.col == 0 && !r.hr && !r.hc
def isZV (v : Vl) : Bool := v.kind == 0 && v.num == 0 && v.text.size == 0
/-- Categories and labels as text. -/
def spc : List UInt8 → List (List UInt8)
 | [] => [[]]
 | b :: l => if b = 44 then [] :: spc l else match spc l with
  | [] => [[b]]
  | h :: t => (b :: h) :: t
def numC (w : List UInt8) : Option Nat := if ((1 ≤ w.length ∧ w.length ≤ 2) ∧ ¬ (w.length = 2 ∧ w.head? = some 48)) ∧ w.all isD = true ∧ rowN w < 64 then some (rowN w) else none
def catsG : Nat → List (List UInt8) → Option Nat
 | s, [] => some s
 | s, w :: r => match numC w with
  | none => none
  | some c => if s / 2 ^ c = 0 then catsG (s + 2 ^ c) r else none
def catsP (t : List UInt8) : Option Nat := if t = [] then some 0 else catsG 0 (spc t)
/-- Up to a colon, and what stands behind; whether there is one. -/
def cutC : List UInt8 → List UInt8 × Option (List UInt8)
 | [] => ([], none)
 | b :: l => if b = 58 then ([], some l) else (b :: (cutC l).1, (cutC l).2)
def levP (h : List UInt8) : Option Nat := (List.range 16).find? (fun n => Lib.decDigits n == h)
def topT : List UInt8 := [116, 111, 112]
def labP (t : List UInt8) : Bool := t == topT || (match levP (cutC t).1, catsP ((cutC t).2.getD []) with
 | some n, some s => ((cutC t).2.isSome == (s != 0)) && !(n == 15 && s == 18446744073709551615)
 | _, _ => false)
def litR (v : Vl) : Bool := if v.kind = 2 then v.num == 0 && decide (v.text.size ≤ 256) && (tb8 v.text).all plainB else if v.kind = 1 then decide (0 ≤ v.num) && decide (v.num ≤ 9223372036854775807) && v.text.size == 0
 else if v.kind = 3 then (v.num == 0 || v.num == 1) && v.text.size == 0 else false
def Nod.kind : Nod → Int
 | .mk kind _ _ _ _ _ => kind
def Nod.val : Nod → Vl
 | .mk _ _ v _ _ _ => v
def fitsA (k : UInt8) (n : Nod) : Bool := if k = 108 then true else if k = 114 ∨ k = 110 then n.kind == 3 || n.kind == 4 || n.kind == 2 else if k = 116 then n.kind == 1 && n.val.kind == 2 && labP (tb8 n.val.text) else n.kind != 4
def fitsL (fn : Int) : Nat → List Nod → Bool
 | _, [] => true
 | i, n :: l => fitsA (kindF fn i) n && fitsL fn (i + 1) l
def one1 (kind op : Int) (v : Vl) (a b : Rf) (l : List Nod) : Bool :=
 if kind = 1 then op == 0 && isZR a && isZR b && l.isEmpty && litR v
 else if kind = 2 then op == 0 && isZV v && isZR a && isZR b && l.isEmpty
 else if kind = 3 then op == 0 && isZV v && isZR b && l.isEmpty && refM a
 else if kind = 4 then op == 0 && isZV v && l.isEmpty && refM a && refM b
 else if kind = 5 then op == 0 && isZV v && isZR a && isZR b && (match l with
  | [x] => fitsA 118 x
  | _ => false)
 else if kind = 6 then isZV v && isZR a && isZR b && decide (1 ≤ op) && decide (op ≤ 12) && (match l with
  | [x, y] => fitsA 118 x && fitsA 118 y
  | _ => false)
 else if kind = 7 then isZV v && isZR a && isZR b && fitsF op l.length && fitsL op 0 l
 else false
mutual
def Nod.rightN : Nod → Bool
 | .mk kind op v a b l => rightsN l && one1 kind op v a b l
def rightsN : List Nod → Bool
 | [] => true
 | n :: l => n.rightN && rightsN l
end
end Go.Den
/- The parser, plain: what stands behind changes nothing; places of tokens do not matter; brackets. -/
set_option linter.unusedVariables false
set_option linter.unusedSimpArgs false
namespace Go.Den
open Go Go.Proofs
variable (fnum : List UInt8 → Int)
end Go.Den
/- The parser, plain: places of tokens do not matter; brackets. -/
set_option linter.unusedVariables false
set_option linter.unusedSimpArgs false
namespace Go.Den
open Go Go.Proofs
variable (fnum : List UInt8 → Int)
def z0 (t : Tk) : Tk := t.put 0
end Go.Den
/- A tree's tokens, and that they are parsed as it: the plain part. -/
set_option linter.unusedVariables false
set_option linter.unusedSimpArgs false
namespace Go.Den
open Go Go.Proofs
def sgt (x : List UInt8) : Tk := ⟨4, 0, x, 0⟩
def wd (w : List UInt8) : Tk := ⟨3, 0, w, 0⟩
def letL (c : Nat) : List UInt8 := if c < 26 then [UInt8.ofNat (65 + c)] else [UInt8.ofNat (64 + c / 26), UInt8.ofNat (65 + c % 26)]
def wrdR (r : Rf) : List UInt8 := (if r.hc = true then [36] else []) ++ (letL r.col.toNat ++ ((if r.hr = true then [36] else []) ++ Lib.decDigits (r.row.toNat + 1)))
/-- An operator's sign, and how much it binds. -/
def sgnO (op : Int) : List UInt8 × Nat := if op = 1 then ([43], 3) else if op = 2 then ([45], 3) else if op = 3 then ([42], 4) else if op = 4 then ([47], 4) else if op = 5 then ([94], 5) else if op = 6 then ([38], 2)
 else if op = 7 then ([61], 1) else if op = 8 then ([60, 62], 1) else if op = 9 then ([60], 1) else if op = 10 then ([60, 61], 1) else if op = 11 then ([62], 1) else ([62, 61], 1)
def Nod.op : Nod → Int
 | .mk _ op _ _ _ _ => op
def bindsN (n : Nod) : Nat := if n.kind = 6 then (sgnO n.op).2 else 9
def wthC (least : Nat) (n : Nod) (u : List Tk) : List Tk := if least ≤ bindsN n then u else sgt [40] :: (u ++ [sgt [41]])
def comC : List (List Tk) → List Tk
 | [] => []
 | [u] => u
 | u :: us => u ++ sgt [44] :: comC us
def tkC (kind op : Int) (v : Vl) (a b : Rf) (l : List Nod) (us : List (List Tk)) : List Tk :=
 if kind = 1 then (if v.kind = 1 then [⟨1, 0, [], v.num⟩] else if v.kind = 2 then [⟨2, 0, tb8 v.text, 0⟩] else [wd (if v.num = 1 then wordL else wordF)])
 else if kind = 2 then [sgt [35, 82, 69, 70]]
 else if kind = 3 then [wd (wrdR a)]
 else if kind = 4 then [wd (wrdR a), sgt [58], wd (wrdR b)]
 else if kind = 5 then (match l, us with
  | [x], [u] => sgt [45] :: wthC 6 x u
  | _, _ => [])
 else if kind = 6 then (match l, us with
  | [x, y], [u, w] => wthC (sgnO op).2 x u ++ sgt (sgnO op).1 :: wthC ((sgnO op).2 + 1) y w
  | _, _ => [])
 else wd (rowP op).1 :: sgt [40] :: (comC us ++ [sgt [41]])
mutual
def tkN : Nod → List Tk
 | .mk kind op v a b l => tkC kind op v a b l (tkNs l)
def tkNs : List Nod → List (List Tk)
 | [] => []
 | n :: l => tkN n :: tkNs l
end
def wth (k : Nat) (n : Nod) : List Tk := wthC k n (tkN n)
theorem isZR_eq {r : Rf} (h : isZR r = true) : r = zR := by
 obtain ⟨a, b, c, d⟩ := r
 unfold isZR at h
 simp only [Bool.and_eq_true, beq_iff_eq, Bool.not_eq_true'] at h
 obtain ⟨⟨⟨h1, h2⟩, h3⟩, h4⟩ := h
 subst h1 h2 h3 h4; rfl
theorem ba_size {t : ByteArray} (h : t.size = 0) : t = ⟨#[]⟩ := by
 rcases t with ⟨⟨l⟩⟩
 cases l with
 | nil => rfl
 | cons b l => exact absurd h (by simp [ByteArray.size])
theorem isZV_eq {v : Vl} (h : isZV v = true) : v = zV := by
 obtain ⟨a, b, c⟩ := v
 unfold isZV at h
 simp only [Bool.and_eq_true, beq_iff_eq] at h
 obtain ⟨⟨h1, h2⟩, h3⟩ := h
 subst h1 h2
 rw [ba_size h3]; rfl
/-- What is right is one of these. -/
inductive Rgt : Nod → Prop where
 | num (x : Int) (h : 0 ≤ x ∧ x ≤ 9223372036854775807) : Rgt (litN ⟨1, x, ⟨#[]⟩⟩)
 | str (t : ByteArray) (h : t.size ≤ 256) (hp : (tb8 t).all plainB = true) : Rgt (litN ⟨2, 0, t⟩)
 | tru (x : Int) (h : x = 0 ∨ x = 1) : Rgt (litN ⟨3, x, ⟨#[]⟩⟩)
 | lost : Rgt lostN
 | one (r : Rf) (h : refM r = true) : Rgt (oneN r)
 | range (r q : Rf) (h : refM r = true) (h2 : refM q = true) : Rgt (rangeN r q)
 | neg (n : Nod) (h : n.rightN = true) (hk : n.kind ≠ 4) : Rgt (negN n)
 | bin (op : Nat) (h : 1 ≤ op ∧ op ≤ 12) (m n : Nod) (hm : m.rightN = true) (hn : n.rightN = true) (hk : m.kind ≠ 4 ∧ n.kind ≠ 4) : Rgt (binN op m n)
 | call (f : Int) (l : List Nod) (hf : fitsF f l.length = true) (hl : rightsN l = true) (hk : fitsL f 0 l = true) : Rgt (callN f l)
theorem rgt {n : Nod} (h : n.rightN = true) : Rgt n := by
 obtain ⟨kind, op, v, a, b, l⟩ := n
 rw [Nod.rightN, Bool.and_eq_true] at h
 obtain ⟨hl, h⟩ := h
 unfold one1 at h
 split at h
 ·rename_i hk; subst hk
  simp only [Bool.and_eq_true, beq_iff_eq, List.isEmpty_iff] at h
  obtain ⟨⟨⟨⟨h1, h2⟩, h3⟩, h4⟩, h5⟩ := h
  subst h1 h4
  rw [isZR_eq h2, isZR_eq h3]
  unfold litR at h5
  obtain ⟨vk, vn, vt⟩ := v
  dsimp only at h5
  split at h5
  ·rename_i hk; subst hk
   simp only [Bool.and_eq_true, beq_iff_eq, decide_eq_true_eq] at h5
   obtain ⟨⟨e1, e2⟩, e3⟩ := h5
   subst e1
   exact .str vt e2 e3
  ·split at h5
   ·rename_i hk; subst hk
    simp only [Bool.and_eq_true, beq_iff_eq, decide_eq_true_eq] at h5
    rw [ba_size h5.2]
    exact .num vn ⟨h5.1.1, h5.1.2⟩
   ·split at h5
    ·rename_i hk; subst hk
     simp only [Bool.and_eq_true, Bool.or_eq_true, beq_iff_eq] at h5
     rw [ba_size h5.2]
     exact .tru vn h5.1
    ·cases h5
 split at h
 ·rename_i hk; subst hk
  simp only [Bool.and_eq_true, beq_iff_eq, List.isEmpty_iff] at h
  obtain ⟨⟨⟨⟨h1, h2⟩, h3⟩, h4⟩, h5⟩ := h
  subst h1 h5
  rw [isZV_eq h2, isZR_eq h3, isZR_eq h4]
  exact .lost
 split at h
 ·rename_i hk; subst hk
  simp only [Bool.and_eq_true, beq_iff_eq, List.isEmpty_iff] at h
  obtain ⟨⟨⟨⟨h1, h2⟩, h3⟩, h4⟩, h5⟩ := h
  subst h1 h4
  rw [isZV_eq h2, isZR_eq h3]
  exact .one a h5
 split at h
 ·rename_i hk; subst hk
  simp only [Bool.and_eq_true, beq_iff_eq, List.isEmpty_iff] at h
  obtain ⟨⟨⟨⟨h1, h2⟩, h3⟩, h4⟩, h5⟩ := h
  subst h1 h3
  rw [isZV_eq h2]
  exact .range a b h4 h5
 split at h
 ·rename_i hk; subst hk
  simp only [Bool.and_eq_true, beq_iff_eq] at h
  obtain ⟨⟨⟨⟨h1, h2⟩, h3⟩, h4⟩, h5⟩ := h
  subst h1
  rw [isZV_eq h2, isZR_eq h3, isZR_eq h4]
  rcases l with _ | ⟨x, _ | ⟨y, l⟩⟩
  ·cases h5
  ·simp only [rightsN, Bool.and_true] at hl
   exact .neg x hl (by simpa [fitsA] using h5)
  ·cases h5
 split at h
 ·rename_i hk; subst hk
  simp only [Bool.and_eq_true, decide_eq_true_eq] at h
  obtain ⟨⟨⟨⟨⟨h1, h2⟩, h3⟩, h4⟩, h5⟩, h6⟩ := h
  rw [isZV_eq h1, isZR_eq h2, isZR_eq h3]
  obtain ⟨k, rfl⟩ : ∃ k : Nat, op = k := ⟨op.toNat, by omega⟩
  rcases l with _ | ⟨x, _ | ⟨y, _ | ⟨z, l⟩⟩⟩
  ·cases h6
  ·cases h6
  ·simp only [rightsN, Bool.and_true, Bool.and_eq_true] at hl h6
   exact .bin k ⟨by omega, by omega⟩ x y hl.1 hl.2 ⟨by simpa [fitsA] using h6.1, by simpa [fitsA] using h6.2⟩
  ·cases h6
 split at h
 ·rename_i hk; subst hk
  simp only [Bool.and_eq_true] at h
  obtain ⟨⟨⟨⟨h1, h2⟩, h3⟩, h4⟩, h5⟩ := h
  rw [isZV_eq h1, isZR_eq h2, isZR_eq h3]
  exact .call op l h4 hl h5
 ·cases h
theorem rights_mem {n : Nod} : ∀ {l : List Nod}, rightsN l = true → n ∈ l → n.rightN = true
 | [], _, h => by cases h
 | m :: l, ho, h => by
  rw [rightsN, Bool.and_eq_true] at ho
  rcases List.mem_cons.1 h with rfl | h
  ·exact ho.1
  ·exact rights_mem ho.2 h
/-- References. -/
theorem u8n {n : Nat} (h : n < 256) : (UInt8.ofNat n).toNat = n := by simp [UInt8.toNat_ofNat']; omega
theorem isU_of {n : Nat} (h : 65 ≤ n ∧ n ≤ 90) : isU (UInt8.ofNat n) = true := by
 unfold isU; rw [u8n (by omega), decide_eq_true h.1, decide_eq_true h.2]; rfl
theorem let_all {c : Nat} (h : c < 702) : (letL c).all isU = true ∧ (1 ≤ (letL c).length ∧ (letL c).length ≤ 2) ∧ colN (letL c) = c + 1 := by
 unfold letL
 by_cases hc : c < 26
 ·rw [if_pos hc]
  refine ⟨by rw [List.all_cons, isU_of (by omega)]; rfl, by simp, ?_⟩
  show 0 * 26 + ((UInt8.ofNat (65 + c)).toNat - 65) + 1 = _
  rw [u8n (by omega)]; omega
 ·rw [if_neg hc]
  refine ⟨by rw [List.all_cons, isU_of (by omega), List.all_cons, isU_of (by omega)]; rfl, by simp, ?_⟩
  show (0 * 26 + ((UInt8.ofNat (64 + c / 26)).toNat - 65) + 1) * 26 + ((UInt8.ofNat (65 + c % 26)).toNat - 65) + 1 = _
  rw [u8n (by omega), u8n (by omega)]; omega
theorem rowN_val : ∀ (l : List UInt8) (n : Nat), l.foldl (fun n b => n * 10 + (b.toNat - 48)) n = valL l n
 | [], n => rfl
 | b :: l, n => by rw [List.foldl_cons, rowN_val l, valL]
theorem cutD_no {b : UInt8} {l : List UInt8} (h : b ≠ 36) : cutD (b :: l) = (b :: l, false) := by unfold cutD; dsimp only; rw [if_neg h]
theorem let_head (c : Nat) (h : c < 702) : ∃ b l, letL c = b :: l ∧ isU b = true := by
 have := (let_all h).1
 unfold letL at this ⊢
 split
 ·rename_i hc; rw [if_pos hc] at this; exact ⟨_, _, rfl, by simpa using this⟩
 ·rename_i hc; rw [if_neg hc, List.all_cons, Bool.and_eq_true] at this; exact ⟨_, _, rfl, this.1⟩
theorem fits_rng {f : Int} {n : Nat} (h : fitsF f n = true) : 1 ≤ f ∧ f ≤ 78 := by
 apply Classical.byContradiction
 intro hf
 unfold fitsF rowP at h
 rw [if_neg hf] at h
 cases h
end Go.Den
/- The program's reference of a cell's text; levels of operators. -/
set_option linter.unusedVariables false
set_option linter.unusedSimpArgs false
set_option maxRecDepth 100000
namespace Go.Den.ET
open Go Go.Proofs
theorem u8w {x : Int} (h0 : 0 ≤ x) (h : x < 256) : IntKind.u8.wrap x = x := by
 simp [IntKind.wrap, IntKind.bits, IntKind.signed]; omega
def colG : List UInt8 → Nat → Option Nat
 | [], n => some n
 | b :: l, n => if isU b = true then colG l (n * 26 + (b.toNat - 65) + 1) else none
def rowG : List UInt8 → Nat → Option Nat
 | [], n => some n
 | b :: l, n => if isD b = true then rowG l (n * 10 + (b.toNat - 48)) else none
theorem colG_eq : ∀ (l : List UInt8) (n : Nat), colG l n = if l.all isU = true then some (l.foldl (fun n b => n * 26 + (b.toNat - 65) + 1) n) else none
 | [], n => rfl
 | b :: l, n => by
  rw [colG, List.all_cons, List.foldl_cons]
  by_cases h : isU b = true
  ·rw [if_pos h, h, Bool.true_and, colG_eq l]
  ·rw [if_neg h]
   have : isU b = false := by simpa using h
   rw [this, Bool.false_and, if_neg (by decide)]
theorem rowG_eq : ∀ (l : List UInt8) (n : Nat), rowG l n = if l.all isD = true then some (l.foldl (fun n b => n * 10 + (b.toNat - 48)) n) else none
 | [], n => rfl
 | b :: l, n => by
  rw [rowG, List.all_cons, List.foldl_cons]
  by_cases h : isD b = true
  ·rw [if_pos h, h, Bool.true_and, rowG_eq l]
  ·rw [if_neg h]
   have : isD b = false := by simpa using h
   rw [this, Bool.false_and, if_neg (by decide)]
def okI : Option Int → PV
 | none => .tup [.sc (.int .i64 0), .sc (.bool false)]
 | some m => .tup [.sc (.int .i64 m), .sc (.bool true)]
theorem okI_sh (o : Option Int) : hasSh (.tup [(.int .i64), .bool]) (okI o) = true := by cases o <;> rfl
theorem pow100 {i : Nat} (h : i ≤ 3) : 100 ^ i ≤ 1000000 := by
 have : i = 0 ∨ i = 1 ∨ i = 2 ∨ i = 3 := by omega
 rcases this with rfl | rfl | rfl | rfl <;> decide
theorem col_l (t : List UInt8) (hl : t.length ≤ 3) : ∀ (d i n : Nat), i + d = t.length → n ≤ 100 ^ i → f48.l0a 0 (B t) (n : Int) (t.length : Int) (i : Int) = some (okI ((colG (t.drop i) n).map fun m => (m : Int) - 1)) := by
 intro d
 induction d with
 | zero =>
  intro i n h hn
  have := pow100 (i := i) (by omega)
  rw [f48.l0a_eq]
  refine im (by rw [decide_eq_true_eq]; omega) ?_
  rw [List.drop_eq_nil_of_le (by omega), w64 (by omega) (by omega)]
  rfl
 | succ d ih =>
  intro i n h hn
  have := pow100 (i := i) (by omega)
  have hi : i < t.length := by omega
  rw [f48.l0a_eq]
  have c1 : (0 : Int) ≤ (i : Int) := by omega
  have c2 : (i : Int) < ((B t).size : Int) := by rw [B_size]; omega
  refine ip (by rw [decide_eq_true_eq]; omega) (ip c1 (ip c2 ?_))
  rw [B_bt hi, List.drop_eq_getElem_cons hi, colG]
  simp only [if_pos c1, if_pos c2, bs, tb]
  rw [bO]
  have hc : (decide ((t[i].toNat : Int) < 65) || decide ((t[i].toNat : Int) > 90)) = !isU t[i] := by
   unfold isU; rw [Bool.eq_iff_iff]; simp; omega
  rw [hc]
  by_cases hu : isU t[i] = true
  ·rw [if_pos hu, hu]
   refine im (by decide) ?_
   unfold isU at hu
   simp only [Bool.and_eq_true, decide_eq_true_eq] at hu
   have e1 : IntKind.u8.wrap ((t[i].toNat : Int) - 65) = (t[i].toNat : Int) - 65 := u8w (by omega) (by omega)
   rw [e1, w64 (x := (t[i].toNat : Int) - 65) (by omega) (by omega), w64 (x := (n : Int) * 26) (by omega) (by omega), w64 (x := (n : Int) * 26 + ((t[i].toNat : Int) - 65)) (by omega) (by omega),
    w64 (x := (n : Int) * 26 + ((t[i].toNat : Int) - 65) + 1) (by omega) (by omega), nx hi (by omega)]
   have := ih (i + 1) (n * 26 + (t[i].toNat - 65) + 1) (by omega) (by rw [Nat.pow_succ]; have : 1 ≤ 100 ^ i := Nat.pow_pos (by decide); omega)
   rw [show ((n * 26 + (t[i].toNat - 65) + 1 : Nat) : Int) = (n : Int) * 26 + ((t[i].toNat : Int) - 65) + 1 by omega] at this
   exact this
  ·rw [if_neg hu]
   have : isU t[i] = false := by simpa using hu
   rw [this]
   exact ip (by decide) rfl
theorem col_ev (t : List UInt8) : D 48 [.sc (.string (B t))] = some (okI (colL t)) := by
 rw [f48_eq 0, bO]
 unfold colL
 by_cases h : 1 ≤ t.length ∧ t.length ≤ 2
 ·have cz : (decide (((B t).size : Int) < 1) || decide (((B t).size : Int) > 2)) = false := by
   rw [Bool.or_eq_false_iff, decide_eq_false_iff_not, decide_eq_false_iff_not, B_size]; omega
  rw [cz]
  refine im (by decide) ?_
  have := col_l t (by omega) t.length 0 0 (by omega) (by simp)
  rw [List.drop_zero, colG_eq] at this
  refine Eq.trans this ?_
  by_cases ha : t.all isU = true
  ·rw [if_pos ha, if_pos ⟨h, ha⟩]; rfl
  ·rw [if_neg ha, if_neg (fun hh => ha hh.2)]; rfl
 ·rw [if_neg (show ¬ ((1 ≤ t.length ∧ t.length ≤ 2) ∧ t.all isU = true) from fun hh => h hh.1)]
  have cz : (decide (((B t).size : Int) < 1) || decide (((B t).size : Int) > 2)) = true := by
   rw [Bool.or_eq_true, decide_eq_true_eq, decide_eq_true_eq, B_size]; omega
  rw [cz]
  exact ip rfl rfl
theorem row_l (t : List UInt8) (hl : t.length ≤ 3) : ∀ (d i n : Nat), i + d = t.length → n ≤ 100 ^ i → f49.l0a 0 (B t) (n : Int) (t.length : Int) (i : Int) = some (okI ((rowG (t.drop i) n).map fun m => (m : Int) - 1)) := by
 intro d
 induction d with
 | zero =>
  intro i n h hn
  have := pow100 (i := i) (by omega)
  rw [f49.l0a_eq]
  refine im (by rw [decide_eq_true_eq]; omega) ?_
  rw [List.drop_eq_nil_of_le (by omega), w64 (by omega) (by omega)]
  rfl
 | succ d ih =>
  intro i n h hn
  have := pow100 (i := i) (by omega)
  have hi : i < t.length := by omega
  rw [f49.l0a_eq]
  have c1 : (0 : Int) ≤ (i : Int) := by omega
  have c2 : (i : Int) < ((B t).size : Int) := by rw [B_size]; omega
  refine ip (by rw [decide_eq_true_eq]; omega) (ip c1 (ip c2 ?_))
  rw [B_bt hi, List.drop_eq_getElem_cons hi, rowG]
  simp only [if_pos c1, if_pos c2, bs, tb]
  rw [bO]
  have hc : (decide ((t[i].toNat : Int) < 48) || decide ((t[i].toNat : Int) > 57)) = !isD t[i] := by
   unfold isD; rw [Bool.eq_iff_iff]; simp; omega
  rw [hc]
  by_cases hu : isD t[i] = true
  ·rw [if_pos hu, hu]
   refine im (by decide) ?_
   unfold isD at hu
   simp only [Bool.and_eq_true, decide_eq_true_eq] at hu
   have e1 : IntKind.u8.wrap ((t[i].toNat : Int) - 48) = (t[i].toNat : Int) - 48 := u8w (by omega) (by omega)
   rw [e1, w64 (x := (t[i].toNat : Int) - 48) (by omega) (by omega), w64 (x := (n : Int) * 10) (by omega) (by omega), w64 (x := (n : Int) * 10 + ((t[i].toNat : Int) - 48)) (by omega) (by omega), nx hi (by omega)]
   have := ih (i + 1) (n * 10 + (t[i].toNat - 48)) (by omega) (by rw [Nat.pow_succ]; have : 1 ≤ 100 ^ i := Nat.pow_pos (by decide); omega)
   rw [show ((n * 10 + (t[i].toNat - 48) : Nat) : Int) = (n : Int) * 10 + ((t[i].toNat : Int) - 48) by omega] at this
   exact this
  ·rw [if_neg hu]
   have : isD t[i] = false := by simpa using hu
   rw [this]
   exact ip (by decide) rfl
theorem row_ev (t : List UInt8) : D 49 [.sc (.string (B t))] = some (okI (rowL t)) := by
 rw [f49_eq 0, bO]
 unfold rowL
 dsimp +instances only [tb]
 by_cases h : 1 ≤ t.length ∧ t.length ≤ 3
 ·have c0 : (0 : Int) < ((B t).size : Int) := by rw [B_size]; omega
  have cz : (decide (((B t).size : Int) < 1) || decide (((B t).size : Int) > 3)) = false := by
   rw [Bool.or_eq_false_iff, decide_eq_false_iff_not, decide_eq_false_iff_not, B_size]; omega
  obtain ⟨b, l, e⟩ : ∃ b l, t = b :: l := by
   rcases t with _ | ⟨b, l⟩
   ·simp at h
   ·exact ⟨b, l, rfl⟩
  have hb : bt (B t) 0 = (b.toNat : Int) := by
   have := B_bt (l := t) (i := 0) (by omega)
   rw [show ((0 : Nat) : Int) = 0 from rfl] at this
   rw [this]; simp [e]
  rw [cz]
  simp only [Bool.false_eq_true, if_false, if_pos c0, bs, tb, hb]
  have h48 : ((b.toNat : Int) == 48) = decide (t.head? = some 48) := by
   rw [e, Bool.eq_iff_iff, beq_iff_eq, decide_eq_true_iff]
   constructor
   ·intro hh; have : b.toNat = (48 : UInt8).toNat := by exact_mod_cast hh
    rw [UInt8.toNat_inj.1 this]; rfl
   ·intro hh; have := Option.some.inj hh; rw [this]; rfl
  rw [h48]
  by_cases hz : t.head? = some 48
  ·rw [decide_eq_true hz, if_neg (fun hh => hh.2.1 hz)]
   exact ip rfl rfl
  ·rw [decide_eq_false hz]
   refine im (by decide) ?_
   have := row_l t (by omega) t.length 0 0 (by omega) (by simp)
   rw [List.drop_zero, rowG_eq] at this
   refine Eq.trans this ?_
   by_cases ha : t.all isD = true
   ·rw [if_pos ha, if_pos ⟨h, hz, ha⟩]; rfl
   ·rw [if_neg ha, if_neg (fun hh => ha hh.2.2)]; rfl
 ·rw [if_neg (show ¬ ((1 ≤ t.length ∧ t.length ≤ 3) ∧ t.head? ≠ some 48 ∧ t.all isD = true) from fun hh => h hh.1)]
  have cz : (decide (((B t).size : Int) < 1) || decide (((B t).size : Int) > 3)) = true := by
   rw [Bool.or_eq_true, decide_eq_true_eq, decide_eq_true_eq, B_size]; omega
  rw [cz]
  simp only [if_true, bs, tb]
  rfl
theorem cutd_ev (l : List UInt8) : D 47 [.sc (.string (B l)), .sc (.string (⟨#[36]⟩ : ByteArray))] = some (.tup [.sc (.string (B (cutD l).1)), .sc (.bool (cutD l).2)]) := by
 have e : D 47 [.sc (.string (B l)), .sc (.string (⟨#[36]⟩ : ByteArray))] = xCutPrefix [.sc (.string (B l)), .sc (.string (⟨#[36]⟩ : ByteArray))] := (denI_eq 0 _ _).trans (by kernel_rfl)
 have e2 : xCutPrefix [.sc (.string (B l)), .sc (.string (⟨#[36]⟩ : ByteArray))] = some (.tup [.sc (.string (B (Lib.trimPrefix l [36]))), .sc (.bool (Lib.hasPrefix l [36]))]) := rfl
 rw [e, e2]
 rcases l with _ | ⟨b, l⟩
 ·rfl
 ·by_cases h : b = 36
  ·subst h; rfl
  ·have h1 : Lib.hasPrefix (b :: l) [36] = false := by
    show ((36 : UInt8) == b && _) = false
    rw [Bool.and_eq_false_iff]; left; exact beq_eq_false_iff_ne.2 (Ne.symm h)
   have h2 : Lib.trimPrefix (b :: l) [36] = b :: l := by unfold Lib.trimPrefix; rw [h1]; rfl
   rw [h1, h2, cutD_no h]
def refR : Option Rf → PV
 | none => .tup [.agg [.sc (.int .i64 0), .sc (.int .i64 0), .sc (.bool false), .sc (.bool false)], .sc (.bool false)]
 | some r => .tup [r.pv, .sc (.bool true)]
theorem refR_sh (o : Option Rf) : hasSh (.tup [(.agg [(.int .i64), (.int .i64), .bool, .bool]), .bool]) (refR o) = true := by cases o <;> rfl
def refE (u : List UInt8) (i : Nat) (hc : Bool) : Option Rf := match colL (u.take i), rowL (cutD (u.drop i)).1 with
 | some c, some r => some ⟨r, c, (cutD (u.drop i)).2, hc⟩
 | _, _ => none
theorem ext_drop' (s : List UInt8) (i : Nat) : (B s).extract (i : Int).toNat ((B s).size : Int).toNat = B (s.drop i) := ext_drop s i
theorem ref_l (u : List UInt8) (hl : u.length ≤ 1000000) (hc : Bool) : ∀ (d i : Nat), i + d = u.length → f14.l0a 0 (B u) (i : Int) 0 0 false false 0 0 false hc = some (refR (refE u (i + runU (u.drop i)) hc)) := by
 have fin : ∀ i : Nat, i ≤ u.length → ∀ c : Bool, c = false → (if c = true then f14.l0a 0 (B u) (IntKind.i64.wrap ((i : Int) + 1)) 0 0 false false 0 0 false hc else
  if 0 ≤ ((B u).size : Int) then
   if ((B u).size : Int) ≤ ((B u).size : Int) then
    if 0 ≤ (i : Int) then
     if (i : Int) ≤ ((B u).size : Int) then
      (D 47 [.sc (.string ((B u).extract (i : Int).toNat ((B u).size : Int).toNat)), .sc (.string (⟨#[36]⟩ : ByteArray))]).bind fun r8 => if hasSh (.tup [.str, .bool]) r8 = true then
      if 0 ≤ (i : Int) then
       if (i : Int) ≤ ((B u).size : Int) then
        if 0 ≤ (i : Int) then
         (D 48 [.sc (.string ((B u).extract 0 (i : Int).toNat))]).bind fun r9 => if hasSh (.tup [(.int .i64), .bool]) r9 = true then
         (D 49 [.sc (.string ((cel 0 r8.parts).toStr))]).bind fun r10 => if hasSh (.tup [(.int .i64), .bool]) r10 = true then
         Option.bind (α := PV) (
          if (!((cel 1 r9.parts).toBool)) = true then
           some (.sc (.bool true))
          else
           some (.sc (.bool (!((cel 1 r10.parts).toBool))))) fun r11 =>
         if r11.toBool = true then
          some (.tup [.agg [.sc (.int .i64 0), .sc (.int .i64 0), .sc (.bool false), .sc (.bool false)], .sc (.bool false)])
         else
          some (.tup [.agg [.sc (.int .i64 ((cel 0 r10.parts).toInt)), .sc (.int .i64 ((cel 0 r9.parts).toInt)), .sc (.bool ((cel 1 r8.parts).toBool)), .sc (.bool hc)], .sc (.bool true)])
         else none
         else none
        else none
       else none
      else none
      else none
     else none
    else none
   else none
  else none) = some (refR (refE u i hc)) := by
  intro i hi c e
  subst e
  refine im (by decide) (ip (by omega) (ip (Int.le_refl _) (ip (by omega) (ip (by rw [B_size]; omega) ?_))))
  rw [ext_drop', take_ext]
  refine cb (cutd_ev _) rfl (ip (by omega) (ip (by rw [B_size]; omega) (ip (by omega) (cb (col_ev _) (okI_sh _) (cb (row_ev _) (okI_sh _) ?_)))))
  rw [bO]
  unfold refE
  show (if (!(cel 1 (okI (colL (u.take i))).parts).toBool || !(cel 1 (okI (rowL (cutD (u.drop i)).1)).parts).toBool) = true then _ else _) = _
  generalize colL (u.take i) = C
  generalize rowL (cutD (u.drop i)).1 = R
  cases C with
  | none => exact ip rfl rfl
  | some c =>
   cases R with
   | none => exact ip rfl rfl
   | some r => exact im (show ¬ ((!true) || (!true)) = true by decide) rfl
 intro d
 induction d with
 | zero =>
  intro i h
  rw [f14.l0a_eq]
  have c : decide ((i : Int) < ((B u).size : Int)) = false := by rw [decide_eq_false_iff_not, B_size]; omega
  rw [c, List.drop_eq_nil_of_le (by omega)]
  exact fin i (by omega) false rfl
 | succ d ih =>
  intro i h
  have hi : i < u.length := by omega
  rw [f14.l0a_eq]
  have c1 : (0 : Int) ≤ (i : Int) := by omega
  have c2 : (i : Int) < ((B u).size : Int) := by rw [B_size]; omega
  have c : decide ((i : Int) < ((B u).size : Int)) = true := decide_eq_true c2
  rw [c, B_bt hi, List.drop_eq_getElem_cons hi, runU]
  simp only [if_pos c1, if_pos c2, bs, tb, if_true]
  by_cases hw : isU u[i] = true
  ·rw [if_pos hw]
   have hw2 := hw
   unfold isU at hw2
   simp only [Bool.and_eq_true, decide_eq_true_eq] at hw2
   rw [decide_eq_true (show (u[i].toNat : Int) ≥ 65 by omega), decide_eq_true (show (u[i].toNat : Int) ≤ 90 by omega)]
   simp only [if_true, bs, tb]
   rw [nx hi (by omega), show i + (runU (u.drop (i + 1)) + 1) = i + 1 + runU (u.drop (i + 1)) by omega]
   exact ih (i + 1) (by omega)
  ·have hw' : isU u[i] = false := by simpa using hw
   rw [if_neg hw]
   by_cases h1 : 65 ≤ u[i].toNat
   ·have h2 : ¬ u[i].toNat ≤ 90 := fun h2 => hw (by unfold isU; rw [decide_eq_true h1, decide_eq_true h2]; rfl)
    rw [decide_eq_true (show (u[i].toNat : Int) ≥ 65 by omega), decide_eq_false (show ¬ (u[i].toNat : Int) ≤ 90 by omega)]
    simp only [if_true, bs, tb]
    exact fin i (by omega) false rfl
   ·rw [decide_eq_false (show ¬ (u[i].toNat : Int) ≥ 65 by omega)]
    simp only [Bool.false_eq_true, if_false, bs, tb]
    exact fin i (by omega) false rfl
theorem cutD_lenR (t : List UInt8) : (cutD t).1.length ≤ t.length := by
 rcases t with _ | ⟨b, l⟩
 ·exact Nat.le_refl _
 ·unfold cutD
  dsimp only
  split <;> simp
theorem ref_ev (t : List UInt8) (hl : t.length ≤ 1000000) : D 14 [.sc (.string (B t))] = some (refR (refP t)) := by
 rw [f14_eq 0]
 refine cb (cutd_ev t) rfl ?_
 have := ref_l (cutD t).1 (by have := cutD_lenR t; omega) (cutD t).2 (cutD t).1.length 0 (by omega)
 rw [List.drop_zero, Nat.zero_add] at this
 exact this
/-- An operator's number. -/
theorem lvls_ev (k : Nat) (x : List UInt8) : D 80 [.sc (.int .i64 (k : Int)), .sc (.string (B x))] = some (.sc (.int .i64 (lvls k x : Int))) := by
 rw [f80_eq 0]
 have e : ∀ y : List UInt8, ((B x).toList == (⟨y.toArray⟩ : ByteArray).toList) = decide (x = y) := by
  intro y
  rw [show (⟨y.toArray⟩ : ByteArray) = B y from rfl, B_toList, B_toList, Bool.eq_iff_iff, beq_iff_eq, decide_eq_true_iff]
 have e1 := e [61]; have e2 := e [60, 62]; have e3 := e [60]; have e4 := e [60, 61]; have e5 := e [62]; have e6 := e [62, 61]; have e7 := e [38]; have e8 := e [43]; have e9 := e [45]; have e10 := e [42]; have e11 := e [47]; have e12 := e [94]
 match k with
 | 1 =>
  refine ip rfl ?_
  rw [e1, e2, e3, e4, e5, e6]
  unfold lvls
  simp only [decide_eq_true_eq]
  repeat' split
  all_goals rfl
 | 2 =>
  refine im (by decide) (ip rfl ?_)
  rw [e7]
  unfold lvls
  simp only [decide_eq_true_eq]
  repeat' split
  all_goals rfl
 | 3 =>
  refine im (by decide) (im (by decide) (ip rfl ?_))
  rw [e8, e9]
  unfold lvls
  simp only [decide_eq_true_eq]
  repeat' split
  all_goals rfl
 | 4 =>
  refine im (by decide) (im (by decide) (im (by decide) (ip rfl ?_)))
  rw [e10, e11]
  unfold lvls
  simp only [decide_eq_true_eq]
  repeat' split
  all_goals rfl
 | 5 =>
  refine im (by decide) (im (by decide) (im (by decide) (im (by decide) (ip rfl ?_))))
  rw [e12]
  unfold lvls
  simp only [decide_eq_true_eq]
  repeat' split
  all_goals rfl
 | 0 => exact im (by decide) (im (by decide) (im (by decide) (im (by decide) (im (by decide) rfl))))
 | n + 6 =>
  have kk : ∀ m : Nat, m ≤ 5 → ¬ (((n + 6 : Nat) : Int) == (m : Int)) = true := by intro m hm; rw [beq_iff_eq]; omega
  exact im (kk 1 (by decide)) (im (kk 2 (by decide)) (im (kk 3 (by decide)) (im (kk 4 (by decide)) (im (kk 5 (by decide)) rfl))))
end Go.Den.ET
/- Texts cut at a byte: the plain part. -/
set_option linter.unusedVariables false
set_option linter.unusedSimpArgs false
namespace Go.Den
open Go Go.Proofs
def cutG (c : UInt8) : List UInt8 → List UInt8 × List UInt8 × Bool
 | [] => ([], [], false)
 | b :: l => if b = c then ([], l, true) else (b :: (cutG c l).1, (cutG c l).2.1, (cutG c l).2.2)
theorem cutg_eq (c : UInt8) (l : List UInt8) : Lib.cut l [c] = cutG c l := by
 unfold Lib.cut
 rw [Lib.index_one]
 induction l with
 | nil => rfl
 | cons b l ih =>
  have ei : Lib.indexByte (b :: l) c = if (b == c) = true then 0 else if (Lib.indexByte l c == -1) = true then -1 else Lib.indexByte l c + 1 := by rw [Lib.indexByte]
  rw [cutG]
  by_cases hb : b = c
  ·rw [if_pos (by simp [hb])] at ei
   rw [ei, if_pos (by decide), if_pos hb]
   rfl
  ·rw [if_neg (by simp [hb])] at ei
   have hr := idx_range l c
   rw [if_neg hb]
   generalize Lib.indexByte (b :: l) c = i at *
   generalize Lib.indexByte l c = j at *
   by_cases hj : j = -1
   ·subst hj
    rw [if_pos (by decide)] at ei
    subst ei
    rw [if_neg (by decide)] at ih
    rw [if_neg (by decide), ← ih]
   ·obtain ⟨n, rfl⟩ : ∃ n : Nat, j = n := ⟨j.toNat, by omega⟩
    rw [if_neg (by simp)] at ei
    subst ei
    rw [if_pos (by omega)] at ih
    rw [if_pos (by omega), ← ih, show ((n : Int) + 1).toNat = n + 1 by omega, Int.toNat_natCast]
    simp
theorem cutg_app (c : UInt8) : ∀ (w r : List UInt8), c ∉ w → cutG c (w ++ c :: r) = (w, r, true)
 | [], r, _ => by rw [List.nil_append, cutG, if_pos rfl]
 | b :: w, r, h => by
  rw [List.cons_append, cutG, if_neg (fun e => h (by rw [e]; exact List.mem_cons_self ..)), cutg_app c w r (fun hh => h (List.mem_cons_of_mem _ hh))]
theorem cutg_no (c : UInt8) : ∀ w : List UInt8, c ∉ w → cutG c w = (w, [], false)
 | [], _ => rfl
 | b :: w, h => by
  rw [cutG, if_neg (fun e => h (by rw [e]; exact List.mem_cons_self ..)), cutg_no c w (fun hh => h (List.mem_cons_of_mem _ hh))]
theorem cutg_C : ∀ l : List UInt8, cutG 58 l = ((cutC l).1, (cutC l).2.getD [], (cutC l).2.isSome)
 | [] => rfl
 | b :: l => by
  rw [cutG, cutC]
  by_cases h : b = 58
  ·rw [if_pos h, if_pos h]; rfl
  ·rw [if_neg h, if_neg h, cutg_C l]
/-- The table of functions as one text. -/
def rowsT : List (List UInt8 × List UInt8) → List UInt8
 | [] => []
 | [r] => r.1 ++ r.2
 | r :: l => (r.1 ++ r.2) ++ 59 :: rowsT l
def rowOk (r : List UInt8 × List UInt8) : Bool := r.1.all (fun b => decide (65 ≤ b.toNat)) && (match r.2 with
 | a :: b :: _ => isD a && isD b
 | _ => false) && !(r.1 ++ r.2).contains 59 && decide ((r.1 ++ r.2).length ≤ 20)
theorem rows_ok : fnRows.all rowOk = true := by decide
theorem rows_78 : fnRows.length = 78 := by decide
theorem row_ok {i : Nat} (h : i < fnRows.length) : rowOk fnRows[i] = true := List.all_eq_true.1 rows_ok _ (List.getElem_mem h)
theorem rowP_get {i : Nat} (h : i < fnRows.length) : rowP ((i + 1 : Nat) : Int) = fnRows[i] := by
 have := rows_78
 unfold rowP
 rw [if_pos (by omega), show ((i + 1 : Nat) : Int).toNat - 1 = i by omega, List.getD_eq_getElem?_getD, List.getElem?_eq_getElem h]; rfl
theorem row_kinds {r : List UInt8 × List UInt8} (h : rowOk r = true) : ∃ a b k, r.2 = a :: b :: k ∧ isD a = true ∧ isD b = true := by
 unfold rowOk at h
 simp only [Bool.and_eq_true] at h
 have h2 := h.1.1.2
 split at h2
 ·rename_i a b k e
  rw [Bool.and_eq_true] at h2
  exact ⟨a, b, k, e, h2.1, h2.2⟩
 ·cases h2
theorem row_upp {r : List UInt8 × List UInt8} (h : rowOk r = true) : r.1.all (fun b => decide (65 ≤ b.toNat)) = true := by
 unfold rowOk at h
 simp only [Bool.and_eq_true] at h
 exact h.1.1.1
theorem row_59 {r : List UInt8 × List UInt8} (h : rowOk r = true) : (59 : UInt8) ∉ r.1 ++ r.2 := by
 unfold rowOk at h
 simp only [Bool.and_eq_true, Bool.not_eq_true'] at h
 intro hh
 have h1 := h.1.2
 rw [List.contains_iff_mem.2 hh] at h1
 cases h1
theorem row_20 {r : List UInt8 × List UInt8} (h : rowOk r = true) : (r.1 ++ r.2).length ≤ 20 := by
 unfold rowOk at h
 simp only [Bool.and_eq_true, decide_eq_true_eq] at h
 exact h.2
theorem rowsT_cut {i : Nat} (h : i < fnRows.length) : cutG 59 (rowsT (fnRows.drop i)) = (fnRows[i].1 ++ fnRows[i].2, rowsT (fnRows.drop (i + 1)), decide (i + 1 < fnRows.length)) := by
 rw [List.drop_eq_getElem_cons h]
 have h9 := row_59 (row_ok h)
 by_cases h2 : i + 1 < fnRows.length
 ·rw [decide_eq_true h2, List.drop_eq_getElem_cons h2]
  exact cutg_app 59 _ _ h9
 ·rw [decide_eq_false h2, List.drop_eq_nil_of_le (by omega)]
  exact cutg_no 59 _ h9
theorem rowsT_le : ∀ l : List (List UInt8 × List UInt8), l.all rowOk = true → (rowsT l).length ≤ 21 * l.length
 | [], _ => by simp [rowsT]
 | [r], h => by
  rw [List.all_cons, Bool.and_eq_true] at h
  have := row_20 h.1
  show (r.1 ++ r.2).length ≤ 21 * 1
  omega
 | r :: q :: l, h => by
  rw [List.all_cons, Bool.and_eq_true] at h
  have := row_20 h.1
  have := rowsT_le (q :: l) h.2
  show ((r.1 ++ r.2) ++ 59 :: rowsT (q :: l)).length ≤ _
  rw [List.length_append, List.length_cons]
  simp only [List.length_cons] at this ⊢
  omega
theorem rowsT_sub (i : Nat) : (rowsT (fnRows.drop i)).length ≤ 2000 := by
 have h := rowsT_le (fnRows.drop i) (by
  rw [List.all_eq_true]
  intro x hx
  exact List.all_eq_true.1 rows_ok x (List.mem_of_mem_drop hx))
 rw [List.length_drop, rows_78] at h
 omega
end Go.Den
/- The program's table of functions. -/
set_option linter.unusedVariables false
set_option linter.unusedSimpArgs false
set_option maxRecDepth 100000
namespace Go.Den.ET
open Go Go.Proofs
theorem cutg_ev (c : UInt8) {l : List UInt8} (h : l.length ≤ 1000000) : D 184 [.sc (.string (B l)), .sc (.string (B [c]))] = some (.tup [.sc (.string (B (cutG c l).1)), .sc (.string (B (cutG c l).2.1)), .sc (.bool (cutG c l).2.2)]) := by
 have e : D 184 [.sc (.string (B l)), .sc (.string (B [c]))] = xCut [.sc (.string (B l)), .sc (.string (B [c]))] := (denI_eq 0 _ _).trans (by kernel_rfl)
 rw [e]
 unfold xCut
 have ec : (Lib.cut (B l).data.toList (B [c]).data.toList) = cutG c l := cutg_eq c l
 dsimp only
 rw [ec]
 exact if_pos (by rw [B_size]; omega)
theorem row_l1 {nm kd : List UInt8} (hn : nm.all (fun b => decide (65 ≤ b.toNat)) = true) (hk : ∃ a l, kd = a :: l ∧ isD a = true) (hl : (nm ++ kd).length ≤ 1000) : ∀ (d i : Nat), i + d = nm.length → f155.l1a 0 (B (nm ++ kd)) (i : Int) = some (.tup [.sc (.string (B nm)), .sc (.string (B kd))]) := by
 obtain ⟨a, l, rfl, ha⟩ := hk
 have hlen : (nm ++ a :: l).length = nm.length + (l.length + 1) := by simp
 intro d
 induction d with
 | zero =>
  intro i h
  have hi : i < (nm ++ a :: l).length := by omega
  have c1 : (0 : Int) ≤ (i : Int) := by omega
  have c2 : (i : Int) < ((B (nm ++ a :: l)).size : Int) := by rw [B_size]; omega
  rw [f155.l1a_eq]
  have e : (nm ++ a :: l)[i] = a := by rw [List.getElem_append_right (by omega)]; simp [show i - nm.length = 0 by omega]
  have hr := isD_rng ha
  refine ip c1 (ip c2 (im (by rw [B_bt hi, e, decide_eq_true_eq]; omega) (ip c1 (ip (by omega) (ip c1 (ip (by omega) (ip (Int.le_refl _) (ip c1 (ip (by omega) ?_)))))))))
  rw [ext_drop, show i = nm.length by omega, take_ext, List.take_left, List.drop_left]
 | succ d ih =>
  intro i h
  have hi : i < (nm ++ a :: l).length := by omega
  have c1 : (0 : Int) ≤ (i : Int) := by omega
  have c2 : (i : Int) < ((B (nm ++ a :: l)).size : Int) := by rw [B_size]; omega
  rw [f155.l1a_eq]
  have hi2 : i < nm.length := by omega
  have e : (nm ++ a :: l)[i] = nm[i] := List.getElem_append_left hi2
  have hb := List.all_eq_true.1 hn nm[i] (List.getElem_mem hi2)
  rw [decide_eq_true_eq] at hb
  refine ip c1 (ip c2 (ip (by rw [B_bt hi, e, decide_eq_true_eq]; omega) ?_))
  rw [nx hi2 (by omega)]
  exact ih (i + 1) (by omega)
theorem row_end {i : Nat} (h : i < fnRows.length) : f155.l1a 0 (B (fnRows[i].1 ++ fnRows[i].2)) 0 = some (.tup [.sc (.string (B fnRows[i].1)), .sc (.string (B fnRows[i].2))]) := by
 have hk := row_ok h
 obtain ⟨a, b, k, e, ha, hb⟩ := row_kinds hk
 exact row_l1 (row_upp hk) ⟨a, _, e, ha⟩ (by have := row_20 hk; omega) _ 0 (Nat.zero_add _)
theorem rowt_l : ∀ (d n f : Nat), n + d = f → 1 ≤ n → (hf : f ≤ 78) → ∀ (hn : n - 1 < fnRows.length), f155.l0a 0 (f : Int) (B (fnRows[n - 1].1 ++ fnRows[n - 1].2)) (B (rowsT (fnRows.drop n))) (n : Int) = some (.tup [.sc (.string (B (rowP (f : Int)).1)), .sc (.string (B (rowP (f : Int)).2))]) := by
 intro d
 induction d with
 | zero =>
  intro n f h h1 hf hn
  rw [f155.l0a_eq]
  refine im (by rw [decide_eq_true_eq]; omega) ?_
  rw [row_end hn]
  have := rowP_get hn
  rw [show n - 1 + 1 = f by omega] at this
  rw [this]
 | succ d ih =>
  intro n f h h1 hf hn
  have h78 := rows_78
  have hn2 : n < fnRows.length := by omega
  rw [f155.l0a_eq]
  refine ip (by rw [decide_eq_true_eq]; omega) (cb (cutg_ev 59 (by have := rowsT_sub n; omega)) rfl ?_)
  rw [rowsT_cut hn2, nx (n := 1000) (show n < 1000 by omega) (by decide)]
  exact ih (n + 1) f (by omega) (by omega) hf (by omega)
theorem rowt_ev (fn : Int) : D 155 [.sc (.int .i64 fn)] = some (.tup [.sc (.string (B (rowP fn).1)), .sc (.string (B (rowP fn).2))]) := by
 rw [f155_eq 0, bO]
 dsimp +instances only [tb]
 by_cases h : 1 ≤ fn ∧ fn ≤ 78
 ·obtain ⟨f, rfl⟩ : ∃ f : Nat, fn = f := ⟨fn.toNat, by omega⟩
  have c : (decide ((f : Int) < 1) || decide ((f : Int) > 78)) = false := by
   rw [Bool.or_eq_false_iff, decide_eq_false_iff_not, decide_eq_false_iff_not]; omega
  rw [c]
  refine im (by decide) ?_
  have h0 : 0 < fnRows.length := by decide
  have e := cutg_ev 59 (l := rowsT fnRows) (by have := rowsT_sub 0; rw [List.drop_zero] at this; omega)
  have e2 := rowsT_cut h0
  rw [List.drop_zero] at e2
  rw [e2] at e
  refine cb (x := .tup [.sc (.string (B (fnRows[0].1 ++ fnRows[0].2))), .sc (.string (B (rowsT (fnRows.drop 1)))), .sc (.bool (decide (0 + 1 < fnRows.length)))]) ?_ rfl ?_
  ·exact e
  ·exact rowt_l (f - 1) 1 f (by omega) (Nat.le_refl _) (by omega) h0
 ·have c : (decide (fn < 1) || decide (fn > 78)) = true := by
   rw [Bool.or_eq_true, decide_eq_true_eq, decide_eq_true_eq]; omega
  rw [c]
  unfold rowP
  rw [if_neg h]
  exact ip rfl rfl
theorem fname_ev (fn : Int) : D 105 [.sc (.int .i64 fn)] = some (.sc (.string (B (rowP fn).1))) := by
 rw [f105_eq 0]
 exact cb (rowt_ev fn) rfl rfl
theorem fnum_l (w : List UInt8) : ∀ (d i : Nat), i + d = 78 → f233.l0a 0 (B w) ((i + 1 : Nat) : Int) = some (.sc (.int .i64 (findF (fnRows.drop i) (i + 1) w : Nat))) := by
 intro d
 induction d with
 | zero =>
  intro i h
  rw [f233.l0a_eq]
  refine im (by rw [decide_eq_true_eq]; omega) ?_
  rw [List.drop_eq_nil_of_le (by rw [rows_78]; omega)]
  rfl
 | succ d ih =>
  intro i h
  have hi : i < fnRows.length := by rw [rows_78]; omega
  rw [f233.l0a_eq]
  refine ip (by rw [decide_eq_true_eq]; omega) (cb (rowt_ev _) rfl ?_)
  rw [rowP_get hi, List.drop_eq_getElem_cons hi, findF]
  have e : ((B fnRows[i].1).toList == (B w).toList) = decide (fnRows[i].1 = w) := by
   rw [B_toList, B_toList, Bool.eq_iff_iff, beq_iff_eq, decide_eq_true_iff]
  show (if ((B fnRows[i].1).toList == (B w).toList) = true then _ else _) = _
  rw [e]
  by_cases hw : fnRows[i].1 = w
  ·rw [if_pos hw]
   exact ip (decide_eq_true hw) rfl
  ·rw [if_neg hw]
   refine im (by rw [decide_eq_true_eq]; exact hw) ?_
   rw [nx (n := 1000) (show i + 1 < 1000 by omega) (by decide)]
   exact ih (i + 1) (by omega)
theorem fnum_ev (w : List UInt8) : D 233 [.sc (.string (B w))] = some (.sc (.int .i64 (fnumP w))) := by
 rw [f233_eq 0]
 have := fnum_l w 78 0 rfl
 rw [List.drop_zero] at this
 exact this
theorem row_cases (fn : Int) : rowP fn = ([], []) ∨ ∃ a b k, (rowP fn).2 = a :: b :: k ∧ isD a = true ∧ isD b = true ∧ (a :: b :: k).length ≤ 20 := by
 by_cases h : 1 ≤ fn ∧ fn ≤ 78
 ·right
  have hi : fn.toNat - 1 < fnRows.length := by rw [rows_78]; omega
  have := rowP_get hi
  rw [show ((fn.toNat - 1 + 1 : Nat) : Int) = fn by omega] at this
  rw [this]
  obtain ⟨a, b, k, e, ha, hb⟩ := row_kinds (row_ok hi)
  have h20 := row_20 (row_ok hi)
  rw [List.length_append, e] at h20
  exact ⟨a, b, k, e, ha, hb, by omega⟩
 ·left; unfold rowP; rw [if_neg h]
theorem dig8 {a : UInt8} (h : isD a = true) : IntKind.i64.wrap (IntKind.u8.wrap ((a.toNat : Int) - 48)) = ((a.toNat - 48 : Nat) : Int) := by
 have := isD_rng h
 rw [u8w (by omega) (by omega), w64 (by omega) (by omega)]; omega
theorem fits_ev (fn : Int) {n : Nat} (hn : (n : Int) ≤ 9223372036854775807) : D 138 [.sc (.int .i64 fn), .sc (.int .i64 (n : Int))] = some (.sc (.bool (fitsF fn n))) := by
 rw [f138_eq 0]
 refine cb (rowt_ev fn) rfl ?_
 unfold fitsF
 have he : ((B []).toList == (⟨#[]⟩ : ByteArray).toList) = true := by rw [show (⟨#[]⟩ : ByteArray) = B [] from rfl, beq_self_eq_true]
 rcases row_cases fn with h | ⟨a, b, k, e, ha, hb, hl⟩
 ·rw [h]
  show Option.bind (α := PV) (if (!((B []).toList == (⟨#[]⟩ : ByteArray).toList)) = true then _ else some (.sc (.bool false))) _ = _
  rw [he]; rfl
 ·rw [e]
  have c0 : (0 : Int) < ((B (a :: b :: k)).size : Int) := by rw [B_size]; simp; omega
  have c1 : (1 : Int) < ((B (a :: b :: k)).size : Int) := by rw [B_size]; simp; omega
  have b0 : bt (B (a :: b :: k)) 0 = (a.toNat : Int) := B_bt (l := a :: b :: k) (i := 0) (by simp)
  have b1 : bt (B (a :: b :: k)) 1 = (b.toNat : Int) := B_bt (l := a :: b :: k) (i := 1) (by simp)
  have hne : ((B (a :: b :: k)).toList == (⟨#[]⟩ : ByteArray).toList) = false := by
   rw [show (⟨#[]⟩ : ByteArray) = B [] from rfl, B_toList, B_toList]; rfl
  show Option.bind (α := PV) (if (!((B (a :: b :: k)).toList == (⟨#[]⟩ : ByteArray).toList)) = true then Option.bind (α := PV) (Option.bind (α := PV) (if 0 < ((B (a :: b :: k)).size : Int) then some (.sc (.bool (decide ((n : Int) ≥ IntKind.i64.wrap (IntKind.u8.wrap (bt (B (a :: b :: k)) 0 - 48)))))) else none) fun r2 => some (.sc (.bool r2.toBool))) fun r3 => some (.sc (.bool r3.toBool)) else some (.sc (.bool false))) _ = _
  rw [hne, b0, dig8 ha]
  simp only [Bool.not_false, if_true, if_pos c0, bs, tb]
  show Option.bind (α := PV) (if decide ((n : Int) ≥ ((a.toNat - 48 : Nat) : Int)) = true then Option.bind (α := PV) (Option.bind (α := PV) (if 1 < ((B (a :: b :: k)).size : Int) then some (.sc (.bool (decide ((n : Int) ≤ IntKind.i64.wrap (IntKind.u8.wrap (bt (B (a :: b :: k)) 1 - 48)))))) else none) fun r5 => some (.sc (.bool r5.toBool))) fun r6 => some (.sc (.bool r6.toBool)) else some (.sc (.bool false))) _ = _
  rw [b1, dig8 hb]
  simp only [if_pos c1, bs, tb]
  rw [bA]
  dsimp only [tb]
  congr 3
  rw [Bool.eq_iff_iff, Bool.and_eq_true, Bool.and_eq_true, decide_eq_true_iff, decide_eq_true_iff, decide_eq_true_iff, decide_eq_true_iff]
  omega
theorem kind_ev (fn : Int) {i : Nat} (hn : (i : Int) ≤ 1000000000) : D 139 [.sc (.int .i64 fn), .sc (.int .i64 (i : Int))] = some (.sc (.int .u8 ((kindF fn i).toNat : Int))) := by
 rw [f139_eq 0]
 refine cb (rowt_ev fn) rfl ?_
 unfold kindF
 have he : ((B []).toList == (⟨#[]⟩ : ByteArray).toList) = true := by rw [show (⟨#[]⟩ : ByteArray) = B [] from rfl, beq_self_eq_true]
 rcases row_cases fn with h | ⟨a, b, k, e, ha, hb, hl⟩
 ·rw [h]
  show Option.bind (α := PV) (if ((B []).toList == (⟨#[]⟩ : ByteArray).toList) = true then some (.sc (.bool true)) else _) _ = _
  rw [he]; rfl
 ·rw [e]
  have c1 : (1 : Int) < ((B (a :: b :: k)).size : Int) := by rw [B_size]; simp; omega
  have b1 : bt (B (a :: b :: k)) 1 = (b.toNat : Int) := B_bt (l := a :: b :: k) (i := 1) (by simp)
  have hne : ((B (a :: b :: k)).toList == (⟨#[]⟩ : ByteArray).toList) = false := by
   rw [show (⟨#[]⟩ : ByteArray) = B [] from rfl, B_toList, B_toList]; rfl
  have hi0 : decide ((i : Int) < 0) = false := by rw [decide_eq_false_iff_not]; omega
  show Option.bind (α := PV) (if ((B (a :: b :: k)).toList == (⟨#[]⟩ : ByteArray).toList) = true then some (.sc (.bool true)) else some (.sc (.bool (decide ((i : Int) < 0))))) _ = _
  rw [hne, hi0]
  simp only [Bool.false_eq_true, if_false, bs, tb]
  show Option.bind (α := PV) (Option.bind (α := PV) (Option.bind (α := PV) (if 1 < ((B (a :: b :: k)).size : Int) then some (.sc (.bool (decide ((i : Int) ≥ IntKind.i64.wrap (IntKind.u8.wrap (bt (B (a :: b :: k)) 1 - 48)))))) else none) fun r3 => some (.sc (.bool r3.toBool))) fun r4 => some (.sc (.bool r4.toBool))) _ = _
  rw [b1, dig8 hb]
  simp only [if_pos c1, bs, tb]
  have hs : ((B (a :: b :: k)).size : Int) = (k.length : Int) + 2 := by rw [B_size]; simp; omega
  by_cases hg : b.toNat - 48 ≤ i
  ·rw [if_pos hg]
   exact ip (by rw [decide_eq_true_eq]; omega) rfl
  ·rw [if_neg hg]
   refine im (by rw [decide_eq_true_eq]; omega) ?_
   have hm : (if IntKind.i64.wrap (((B (a :: b :: k)).size : Int) - 1) < IntKind.i64.wrap ((2 : Int) + (i : Int)) then IntKind.i64.wrap (((B (a :: b :: k)).size : Int) - 1) else IntKind.i64.wrap ((2 : Int) + (i : Int))) = ((min (2 + i) (k.length + 1) : Nat) : Int) := by
    have hl2 : k.length ≤ 20 := by simp at hl; omega
    rw [w64 (x := ((B (a :: b :: k)).size : Int) - 1) (by omega) (by omega), w64 (x := (2 : Int) + (i : Int)) (by omega) (by omega)]
    by_cases h2 : ((B (a :: b :: k)).size : Int) - 1 < (2 : Int) + (i : Int)
    ·rw [if_pos h2]; omega
    ·rw [if_neg h2]; omega
   have hlt : min (2 + i) (k.length + 1) < (a :: b :: k).length := by simp only [List.length_cons]; omega
   show (if 0 ≤ (if IntKind.i64.wrap (((B (a :: b :: k)).size : Int) - 1) < IntKind.i64.wrap ((2 : Int) + (i : Int)) then IntKind.i64.wrap (((B (a :: b :: k)).size : Int) - 1) else IntKind.i64.wrap ((2 : Int) + (i : Int))) then
    (if (if IntKind.i64.wrap (((B (a :: b :: k)).size : Int) - 1) < IntKind.i64.wrap ((2 : Int) + (i : Int)) then IntKind.i64.wrap (((B (a :: b :: k)).size : Int) - 1) else IntKind.i64.wrap ((2 : Int) + (i : Int))) < ((B (a :: b :: k)).size : Int) then
     some (PV.sc (.int .u8 (bt (B (a :: b :: k)) (if IntKind.i64.wrap (((B (a :: b :: k)).size : Int) - 1) < IntKind.i64.wrap ((2 : Int) + (i : Int)) then IntKind.i64.wrap (((B (a :: b :: k)).size : Int) - 1) else IntKind.i64.wrap ((2 : Int) + (i : Int)))))) else (none : Option PV)) else none) = _
   rw [hm, B_bt hlt]
   refine ip (by omega) (ip (by rw [B_size]; omega) ?_)
   rw [List.getD_eq_getElem?_getD, List.getElem?_eq_getElem hlt]; rfl
end Go.Den.ET
