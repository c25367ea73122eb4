/- Which decimal a text means: the reference; with which one a text begins: both. -/
import Derived.Test.YtbkdoeghgdbjlaaDoorDigUL
set_option linter.unusedVariables false
set_option linter.unusedSimpArgs false
set_option maxRecDepth 100000
namespace Go.Den.EL
open Go Go.Proofs
theorem pdigit_g (l : List UInt8) (i : Nat) : D 61 [.sc (.string (B l)), .sc (.int .i64 (i : Int))] = some (.sc (.bool (isDp l i))) := by
  rw [f61_eq 0, isDp_eq]
  by_cases h : i < l.length
  · have c1 : decide ((i : Int) < ((B l).size : Int)) = true := by rw [decide_eq_true_eq, B_size]; omega
    have c2 : (0 : Int) ≤ (i : Int) := by omega
    have c3 : (i : Int) < ((B l).size : Int) := by rw [B_size]; omega
    rw [dif_pos h, c1, B_bt h]
    have e1 : decide ((l[i].toNat : Int) ≥ 48) = decide (48 ≤ l[i].toNat) := decide_eq_decide.2 (by omega)
    have e2 : decide ((l[i].toNat : Int) ≤ 57) = decide (l[i].toNat ≤ 57) := decide_eq_decide.2 (by omega)
    rw [e1, e2]
    simp only [if_pos c2, if_pos c3, bs, tb, if_true, bA]
    rfl
  · have c1 : decide ((i : Int) < ((B l).size : Int)) = false := by rw [decide_eq_false_iff_not, B_size]; omega
    rw [dif_neg h, c1]
    rfl
theorem dval_g {b : UInt8} (hd : isD b = true) : IntKind.i64.wrap (IntKind.i64.wrap (b.toNat : Int) - 48) = ((b.toNat - 48 : Nat) : Int) := by
  have hb : 48 ≤ b.toNat ∧ b.toNat ≤ 57 := by unfold isD at hd; simpa using hd
  rw [w64 (x := (b.toNat : Int)) (by omega) (by omega), w64 (by omega) (by omega)]; omega
end Go.Den.EL
