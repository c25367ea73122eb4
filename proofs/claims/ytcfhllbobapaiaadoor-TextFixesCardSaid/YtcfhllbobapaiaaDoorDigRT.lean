/- Decimals as texts: which decimal a text means. -/
import Derived.Test.YtcfhllbobapaiaaDoorDigTT
set_option linter.unusedVariables false
set_option linter.unusedSimpArgs false
set_option maxRecDepth 100000
namespace Go.Den.ET
open Go Go.Proofs
theorem w64h {x : Int} (h0 : 9223372036854775807 < x) (h1 : x ≤ 18446744073709551615) : IntKind.i64.wrap x = x - 18446744073709551616 := by
  simp [IntKind.wrap, IntKind.bits, IntKind.signed]; omega
theorem w64l {x : Int} (h0 : -18446744073709551616 ≤ x) (h1 : x < -9223372036854775808) : IntKind.i64.wrap x = x + 18446744073709551616 := by
  simp [IntKind.wrap, IntKind.bits, IntKind.signed]; omega
theorem add_ev {a b : Int} (ha : I64 a) (hb : I64 b) : D 100 [.sc (.int .i64 a), .sc (.int .i64 b)] = some (pvG (addS a b)) := by
  have hw : I64 (IntKind.i64.wrap (a + b)) := by
    unfold I64 at ha hb ⊢
    by_cases h1 : 9223372036854775807 < a + b
    · rw [w64h h1 (by omega)]; omega
    · by_cases h2 : a + b < -9223372036854775808
      · rw [w64l (by omega) h2]; omega
      · rw [w64 (by omega) (by omega)]; omega
  rw [f100_eq 0]
  simp only [may_ev ha, may_ev hb, may_ev hw, bs, shb, if_true, tb, bA, bO]
  unfold I64 at ha hb
  unfold addS
  by_cases h1 : 9223372036854775807 < a + b
  · rw [if_neg (by unfold May; omega)]
    refine ip ?_ rfl
    rw [w64h h1 (by omega)]
    simp only [Bool.or_eq_true, Bool.not_eq_true', Bool.and_eq_true, decide_eq_true_eq, decide_eq_false_iff_not]
    simp only [May]
    omega
  · by_cases h2 : a + b < -9223372036854775808
    · rw [if_neg (by unfold May; omega)]
      refine ip ?_ rfl
      rw [w64l (by omega) h2]
      simp only [Bool.or_eq_true, Bool.not_eq_true', Bool.and_eq_true, decide_eq_true_eq, decide_eq_false_iff_not]
      simp only [May]
      omega
    · simp only [w64 (x := a + b) (by omega) (by omega)]
      by_cases h3 : May a ∧ May b ∧ May (a + b)
      · rw [if_pos h3]
        refine im ?_ rfl
        simp only [Bool.or_eq_true, Bool.not_eq_true', Bool.and_eq_true, decide_eq_true_eq, decide_eq_false_iff_not] at h3 ⊢
        simp only [May] at h3 ⊢
        omega
      · rw [if_neg h3]
        refine ip ?_ rfl
        simp only [Bool.or_eq_true, Bool.not_eq_true', Bool.and_eq_true, decide_eq_true_eq, decide_eq_false_iff_not] at h3 ⊢
        simp only [May] at h3 ⊢
        omega
def pvU (a b : Int) : PV := .tup [.sc (.int .u64 a), .sc (.int .u64 b)]
def putS (x y : Nat) (m : Bool) : Int × Bool := if ((x * 10000 + y : Nat) : Int) ≤ 9223372036854775807 then (if m = true then -((x * 10000 + y : Nat) : Int) else ((x * 10000 + y : Nat) : Int), true) else (0, false)
theorem cut_ev {l : List UInt8} (h : l.length ≤ 1000000) : D 67 [.sc (.string (B l)), .sc (.string (⟨#[46]⟩ : ByteArray))] = some (.tup [.sc (.string (B (cutL l).1)), .sc (.string (B (cutL l).2.1)), .sc (.bool (cutL l).2.2)]) := by
  have e : D 67 [.sc (.string (B l)), .sc (.string (⟨#[46]⟩ : ByteArray))] = xCut [.sc (.string (B l)), .sc (.string (⟨#[46]⟩ : ByteArray))] := (denI_eq 0 _ _).trans (by kernel_rfl)
  rw [e]
  unfold xCut
  have ec : (Lib.cut (B l).data.toList (⟨#[46]⟩ : ByteArray).data.toList) = cutL l := cut_eq l
  dsimp only
  rw [ec]
  exact if_pos (by rw [B_size]; omega)
end Go.Den.ET
