/- Decimals as texts: which decimal a text means. -/
import Derived.Test.YtcfhllbobapaiaaDoorDigTF
set_option linter.unusedVariables false
set_option linter.unusedSimpArgs false
set_option maxRecDepth 100000
namespace Go.Den.EF
open Go Go.Proofs
theorem w64h {x : Int} (h0 : 9223372036854775807 < x) (h1 : x ≤ 18446744073709551615) : IntKind.i64.wrap x = x - 18446744073709551616 := by
  simp [IntKind.wrap, IntKind.bits, IntKind.signed]; omega
theorem w64l {x : Int} (h0 : -18446744073709551616 ≤ x) (h1 : x < -9223372036854775808) : IntKind.i64.wrap x = x + 18446744073709551616 := by
  simp [IntKind.wrap, IntKind.bits, IntKind.signed]; omega
theorem add_ev {a b : Int} (ha : I64 a) (hb : I64 b) : D 100 [.sc (.int .i64 a), .sc (.int .i64 b)] = some (pvG (addS a b)) := by
  have hw : I64 (IntKind.i64.wrap (a + b)) := by
    unfold I64 at ha hb ⊢
    by_cases h1 : 9223372036854775807 < a + b
    · rw [w64h h1 (by omega)]; omega
    · by_cases h2 : a + b < -9223372036854775808
      · rw [w64l (by omega) h2]; omega
      · rw [w64 (by omega) (by omega)]; omega
  rw [f100_eq 0]
  simp only [may_ev ha, may_ev hb, may_ev hw, bs, shb, if_true, tb, bA, bO]
  unfold I64 at ha hb
  unfold addS
  by_cases h1 : 9223372036854775807 < a + b
  · rw [if_neg (by unfold May; omega)]
    refine ip ?_ rfl
    rw [w64h h1 (by omega)]
    simp only [Bool.or_eq_true, Bool.not_eq_true', Bool.and_eq_true, decide_eq_true_eq, decide_eq_false_iff_not]
    simp only [May]
    omega
  · by_cases h2 : a + b < -9223372036854775808
    · rw [if_neg (by unfold May; omega)]
      refine ip ?_ rfl
      rw [w64l (by omega) h2]
      simp only [Bool.or_eq_true, Bool.not_eq_true', Bool.and_eq_true, decide_eq_true_eq, decide_eq_false_iff_not]
      simp only [May]
      omega
    · simp only [w64 (x := a + b) (by omega) (by omega)]
      by_cases h3 : May a ∧ May b ∧ May (a + b)
      · rw [if_pos h3]
        refine im ?_ rfl
        simp only [Bool.or_eq_true, Bool.not_eq_true', Bool.and_eq_true, decide_eq_true_eq, decide_eq_false_iff_not] at h3 ⊢
        simp only [May] at h3 ⊢
        omega
      · rw [if_neg h3]
        refine ip ?_ rfl
        simp only [Bool.or_eq_true, Bool.not_eq_true', Bool.and_eq_true, decide_eq_true_eq, decide_eq_false_iff_not] at h3 ⊢
        simp only [May] at h3 ⊢
        omega
theorem size_ev {x : Int} (h0 : 0 ≤ x) (h1 : x ≤ 9223372036854775807) : D 140 [.sc (.int .i64 x)] = some (.sc (.int .u64 x)) := by
  rw [f140_eq 0]
  refine im (by rw [decide_eq_true_eq]; omega) ?_
  rw [u64i h0 (by omega)]
theorem sign_ev {x : Int} (h0 : 0 ≤ x) : D 143 [.sc (.int .i64 x)] = some (.sc (.int .i64 (if x = 0 then 0 else 1))) := by
  rw [f143_eq 0]
  refine im (by rw [decide_eq_true_eq]; omega) ?_
  by_cases h : x = 0
  · rw [if_pos h]; exact im (by rw [decide_eq_true_eq]; omega) rfl
  · rw [if_neg h]; exact ip (by rw [decide_eq_true_eq]; omega) rfl
def pvU (a b : Int) : PV := .tup [.sc (.int .u64 a), .sc (.int .u64 b)]
theorem mul64_ev (a b : Int) (ha0 : 0 ≤ a) (ha : a < 18446744073709551616) (hb0 : 0 ≤ b) (hb : b < 18446744073709551616) :
    D 141 [.sc (.int .u64 a), .sc (.int .u64 b)] = some (pvU (a * b / 18446744073709551616) (a * b % 18446744073709551616)) := by
  obtain ⟨p11, p10, p01, p00, e11, e10, e01, e00, h11, h10, h01, h00, e⟩ := mul64_math ha0 ha hb0 hb
  rw [f141_eq 0]
  have ea : a.fdiv 4294967296 = a / 4294967296 := Int.fdiv_eq_ediv_of_nonneg _ (by decide)
  have eb : b.fdiv 4294967296 = b / 4294967296 := Int.fdiv_eq_ediv_of_nonneg _ (by decide)
  rw [and32 ha0 ha, and32 hb0 hb, ea, eb, ← e11, ← e10, ← e01, ← e00, u64i (x := p11) (by omega) (by omega), u64i (x := p10) (by omega) (by omega), u64i (x := p01) (by omega) (by omega), u64i (x := p00) (by omega) (by omega)]
  have e0 : p00.fdiv 4294967296 = p00 / 4294967296 := Int.fdiv_eq_ediv_of_nonneg _ (by decide)
  rw [e0, u64i (x := p10 + p00 / 4294967296) (by omega) (by omega), and32 (by omega) (by omega), u64w (a * b)]
  rw [u64i (x := (p10 + p00 / 4294967296) % 4294967296 + p01) (by omega) (by omega)]
  have e1 : (p10 + p00 / 4294967296).fdiv 4294967296 = (p10 + p00 / 4294967296) / 4294967296 := Int.fdiv_eq_ediv_of_nonneg _ (by decide)
  have e2 : ((p10 + p00 / 4294967296) % 4294967296 + p01).fdiv 4294967296 = ((p10 + p00 / 4294967296) % 4294967296 + p01) / 4294967296 := Int.fdiv_eq_ediv_of_nonneg _ (by decide)
  rw [e1, e2, u64w, u64w]
  unfold pvU
  congr 6
  omega
theorem div64_ev {lo : Int} (h0 : 0 ≤ lo) (h1 : lo < 18446744073709551616) : D 142 [.sc (.int .u64 0), .sc (.int .u64 lo), .sc (.int .u64 1)] = some (pvU lo 0) := by
  rw [f142_eq 0]
  refine im (by decide) ?_
  rw [f142.j0a_eq]
  refine im (by decide) ?_
  rw [f142.j1a_eq]
  refine ip (by decide) (ip (by decide) (ip (by decide) ?_))
  rw [Int.tdiv_one, Int.tmod_one, u64i h0 h1]
  rfl
theorem scaled_ev {a b : Int} (ha0 : 0 ≤ a) (ha : a ≤ 9223372036854775807) (hb0 : 0 < b) (hb : b ≤ 9223372036854775807) : D 93 [.sc (.int .i64 a), .sc (.int .i64 b), .sc (.int .i64 1)] = some (pvG (mulS a b)) := by
  have ma : May a := by unfold May; omega
  have mb : May b := by unfold May; omega
  have m1 : May 1 := by decide
  rw [f93_eq 0]
  simp only [may_ev (show I64 a by unfold I64; omega), may_ev (show I64 b by unfold I64; omega), may_ev (show I64 1 by unfold I64; omega), decide_eq_true ma, decide_eq_true mb, decide_eq_true m1, bs, shb, if_true, tb, bA, bO]
  refine im (by decide) (cb (size_ev (by decide) (by decide)) rfl (cb (size_ev ha0 ha) rfl (cb (size_ev (by omega) hb) rfl ?_)))
  simp only [ti]
  refine cb (mul64_ev a b ha0 (by omega) (by omega) (by omega)) rfl ?_
  show (if decide (a * b / 18446744073709551616 ≥ 1) = true then _ else _) = _
  have hp : 0 ≤ a * b := Int.mul_nonneg ha0 (by omega)
  have hq : a * b / 18446744073709551616 ≥ 0 := Int.ediv_nonneg hp (by decide)
  by_cases ho : a * b / 18446744073709551616 ≥ 1
  · refine ip (decide_eq_true ho) ?_
    rw [mulS_no (by unfold May; omega)]; rfl
  · refine im (by rw [decide_eq_true_eq]; exact ho) ?_
    have e0 : a * b / 18446744073709551616 = 0 := by omega
    have e1 : a * b % 18446744073709551616 = a * b := by omega
    rw [e0, e1]
    have hd := div64_ev (lo := a * b) hp (by omega)
    refine cb (x := pvU (a * b) 0) hd rfl ?_
    show (if decide ((0 : Int) ≥ IntKind.u64.wrap (1 - 0)) = true then _ else _) = _
    refine im (by decide) ?_
    show f93.j0a 0 a b 1 (a * b) = _
    rw [f93.j0a_eq]
    by_cases hm : a * b > 9223372036854775807
    · refine ip (decide_eq_true hm) ?_
      rw [mulS_no (by unfold May; omega)]; rfl
    · refine im (by rw [decide_eq_true_eq]; exact hm) (cb (sign_ev ha0) rfl (cb (sign_ev (by omega)) rfl (cb (sign_ev (by decide)) rfl ?_)))
      rw [mulS_yes ⟨ma, mb, by unfold May; omega⟩, w64 (x := a * b) (by omega) (by omega)]
      have hb1 : ¬ b = 0 := by omega
      by_cases hz : a = 0
      · simp only [ti, if_pos hz, if_neg hb1]
        exact im (by decide) rfl
      · simp only [ti, if_neg hz, if_neg hb1]
        exact im (by decide) rfl
def putS (x y : Nat) (m : Bool) : Int × Bool := if ((x * 10000 + y : Nat) : Int) ≤ 9223372036854775807 then (if m = true then -((x * 10000 + y : Nat) : Int) else ((x * 10000 + y : Nat) : Int), true) else (0, false)
end Go.Den.EF
