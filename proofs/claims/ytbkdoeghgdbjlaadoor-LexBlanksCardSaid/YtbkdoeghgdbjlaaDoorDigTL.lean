/- Decimals as texts: what the program's functions, and the reference's digits, answer. -/
import Derived.Test.YtbkdoeghgdbjlaaDoorDigL
import Derived.Test.YtbkdoeghgdbjlaaDoorELx0
import Derived.Test.YtbkdoeghgdbjlaaDoorELx1
import Derived.Test.YtbkdoeghgdbjlaaDoorELx2
set_option linter.unusedVariables false
set_option linter.unusedSimpArgs false
set_option maxRecDepth 100000
namespace Go.Den.EL
open Go Go.Proofs
def pvG (g : Int × Bool) : PV := .tup [.sc (.int .i64 g.1), .sc (.bool g.2)]
theorem pvG_sh (g : Int × Bool) : hasSh (.tup [(.int .i64), .bool]) (pvG g) = true := rfl
theorem pvG_0 (g : Int × Bool) : (cel 0 (pvG g).parts).toInt = g.1 := rfl
theorem pvG_1 (g : Int × Bool) : (cel 1 (pvG g).parts).toBool = g.2 := rfl
theorem pvG_fold (a : Int) (b : Bool) : PV.tup [.sc (.int .i64 a), .sc (.bool b)] = pvG (a, b) := rfl
theorem may_ev {x : Int} (h : I64 x) : D 32 [.sc (.int .i64 x)] = some (.sc (.bool (decide (May x)))) := by
  rw [f32_eq 0]
  congr 3
  rw [Bool.eq_iff_iff, bne_iff_ne, decide_eq_true_iff]
  unfold I64 at h
  unfold May; omega
theorem units_ev {x : Int} (h : I64 x) : D 34 [.sc (.int .i64 x)] = some (.sc (.int .i64 (if May x then x.tdiv 10000 else 0))) := by
  rw [f34_eq 0]
  refine cb (may_ev h) rfl ?_
  simp only [tb]
  have t := tdm x (m := 10000) (by decide)
  unfold I64 at h
  by_cases hm : May x
  · rw [if_pos hm, decide_eq_true hm]
    refine im (by decide) ?_
    rw [w64 (by omega) (by omega)]
  · rw [if_neg hm, decide_eq_false hm]
    exact ip (by decide) rfl
theorem format_ev {n : Int} (h : I64 n) : D 33 [.sc (.int .i64 n), .sc (.int .i64 10)] = some (.sc (.string (B (Lib.itoa n)))) := by
  have e : D 33 [.sc (.int .i64 n), .sc (.int .i64 10)] = xFormatInt [.sc (.int .i64 n), .sc (.int .i64 10)] := (denI_eq 0 _ _).trans (by kernel_rfl)
  rw [e]
  unfold xFormatInt
  exact if_pos ⟨rfl, h.1, h.2⟩
theorem trimr_ev {l : List UInt8} (h : l.length ≤ 1000000) : D 35 [.sc (.string (B l)), .sc (.string (⟨#[48]⟩ : ByteArray))] = some (.sc (.string (B (Lib.trimRightB l 48)))) := by
  have e : D 35 [.sc (.string (B l)), .sc (.string (⟨#[48]⟩ : ByteArray))] = xTrimRight [.sc (.string (B l)), .sc (.string (⟨#[48]⟩ : ByteArray))] := (denI_eq 0 _ _).trans (by kernel_rfl)
  rw [e]
  unfold xTrimRight
  exact if_pos ⟨rfl, by decide, by rw [B_size]; omega⟩
theorem text_j {x : Int} (h : May x) {l : List UInt8} (hl : l.length ≤ 17) : f18.j0a 0 x (B l) = some (.sc (.string (B (l ++ fracS (x.natAbs % 10000))))) := by
  rw [f18.j0a_eq]
  have e := rest_of h
  have hr : x.natAbs % 10000 < 10000 := Nat.mod_lt _ (by decide)
  generalize x.natAbs % 10000 = r at *
  have em : IntKind.i64.wrap ((10000 : Int) + (if IntKind.i64.wrap (0 - (x.tmod 10000)) > x.tmod 10000 then IntKind.i64.wrap (0 - (x.tmod 10000)) else x.tmod 10000)) = ((10000 + r : Nat) : Int) := by
    rw [e]
    split
    · rw [w64 (x := 0 - -(r : Int)) (by omega) (by omega)]
      rw [w64 (by split <;> omega) (by split <;> omega)]
      split <;> omega
    · rw [w64 (x := 0 - (r : Int)) (by omega) (by omega)]
      rw [w64 (by split <;> omega) (by split <;> omega)]
      split <;> omega
  unfold fracS
  by_cases h0 : r = 0
  · refine ip (by rw [e, h0]; split <;> rfl) ?_
    rw [if_pos h0, List.append_nil]
  · refine im (by rw [e, beq_iff_eq]; split <;> omega) ?_
    rw [em, if_neg h0]
    refine cb (format_ev (by unfold I64; omega)) rfl ?_
    rw [itoa_nat, four hr]
    simp only [ts]
    refine ip (by rw [B_size]; exact Int.natCast_nonneg _) (ip (Int.le_refl _) (ip (by rw [B_size]; simp) (ip (by rw [B_size]; omega) ?_)))
    rw [B_extract]
    refine cb (trimr_ev (by rw [List.length_take, List.length_drop]; simp only [List.length_cons, List.length_nil]; omega)) rfl ?_
    rw [show (List.take (((B [49, dc (r / 1000), dc (r / 100 % 10), dc (r / 10 % 10), dc (r % 10)]).size : Int).toNat - 1) (List.drop 1 [49, dc (r / 1000), dc (r / 100 % 10), dc (r / 10 % 10), dc (r % 10)])) = [dc (r / 1000), dc (r / 100 % 10), dc (r / 10 % 10), dc (r % 10)] from rfl, trim_eq hr h0]
    have hf : (fracL 4 r).length ≤ 4 := frac_len 4 r
    have e46 : (⟨#[46]⟩ : ByteArray) = B [46] := rfl
    refine ip (by simp only [ts, e46, B_append, B_size]; simp; omega) ?_
    simp only [ts, e46, B_append]
    rw [List.append_assoc]
    rfl
theorem text_ev {x : Int} (hx : I64 x) : D 18 [.sc (.int .i64 x)] = some (.sc (.string (B (texS x)))) := by
  rw [f18_eq 0]
  refine cb (may_ev hx) rfl ?_
  simp only [tb]
  unfold texS
  by_cases h : May x
  · rw [if_pos h, decide_eq_true h]
    have hm := h
    unfold May at hm
    have t := tdm x (m := 10000) (by decide)
    refine im (by decide) (cb (units_ev hx) rfl ?_)
    rw [if_pos h]
    simp only [ti]
    refine cb (format_ev (by unfold I64 at *; omega)) rfl ?_
    have hl := head_len h
    unfold texL
    simp only [bA, tb, ts]
    by_cases h0 : x < 0
    · rw [if_pos h0] at hl ⊢
      by_cases h1 : x > -10000
      · rw [show x.tdiv 10000 = ((0 : Nat) : Int) by omega, itoa_nat, show x.natAbs / 10000 = 0 by omega]
        rw [show x.natAbs / 10000 = 0 by omega] at hl
        refine ip (by simp; omega) (ip (by rw [B_size]; simp at hl ⊢; omega) ?_)
        rw [show (⟨#[45]⟩ : ByteArray) = B [45] from rfl, B_append]
        exact text_j h hl
      · have hq : 0 < x.natAbs / 10000 := by omega
        rw [show x.tdiv 10000 = -((x.natAbs / 10000 : Nat) : Int) by omega, itoa_neg hq]
        refine im (by simp; omega) ?_
        exact text_j h hl
    · rw [if_neg h0] at hl ⊢
      rw [show x.tdiv 10000 = ((x.natAbs / 10000 : Nat) : Int) by omega, itoa_nat]
      refine im (by simp; omega) ?_
      exact text_j h hl
  · rw [if_neg h, decide_eq_false h]
    exact ip (by decide) rfl
/-- A count's text. -/
theorem count_ev {n : Int} (h0 : 0 ≤ n) (h1 : n ≤ 1000000000) : D 18 [.sc (.int .i64 (IntKind.i64.wrap (n * 10000)))] = some (.sc (.string (B (Lib.decDigits n.toNat)))) := by
  rw [w64 (by omega) (by omega), text_ev (by unfold I64; omega)]
  unfold texS
  rw [if_pos (by unfold May; omega)]
  unfold texL fracS
  rw [if_neg (by omega), if_pos (by omega), List.append_nil, List.nil_append, show (n * 10000).natAbs / 10000 = n.toNat by omega]
theorem digit_str (n : Nat) : bytesOf [PV.sc (.int .u8 (IntKind.u8.wrap (IntKind.i64.wrap ((48 : Int) + ((n : Int).tmod 10)))))] = B [dc (n % 10)] := by
  have e : Int.tmod (n : Int) 10 = ((n % 10 : Nat) : Int) := by rw [Int.tmod_eq_emod_of_nonneg (by omega)]; omega
  have h : n % 10 < 10 := Nat.mod_lt _ (by decide)
  have e8 : IntKind.u8.wrap ((48 + n % 10 : Nat) : Int) = ((48 + n % 10 : Nat) : Int) := by
    simp [IntKind.wrap, IntKind.bits, IntKind.signed]; omega
  rw [e, w64 (by omega) (by omega), show ((48 : Int) + ((n % 10 : Nat) : Int)) = ((48 + n % 10 : Nat) : Int) by omega, e8]
  rfl
theorem tens (n : Nat) (h : (n : Int) ≤ 9223372036854775807) : IntKind.i64.wrap (Int.tdiv (n : Int) 10) = ((n / 10 : Nat) : Int) := by
  rw [Int.tdiv_eq_ediv_of_nonneg (by omega), w64 (by omega) (by omega)]
  omega
end Go.Den.EL
