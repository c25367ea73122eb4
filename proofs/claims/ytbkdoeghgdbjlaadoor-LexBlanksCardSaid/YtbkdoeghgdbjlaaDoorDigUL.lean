/- Decimals, as the reference reads, adds, multiplies and tells them. -/
import Derived.Test.YtbkdoeghgdbjlaaDoorDigRL
import Derived.Test.YtbkdoeghgdbjlaaDoorDigP
set_option linter.unusedVariables false
set_option linter.unusedSimpArgs false
set_option maxRecDepth 100000
namespace Go.Den.EL
open Go Go.Proofs
/-- A count, as the reference tells it. -/
theorem u8dig (n : Nat) : bytesOf [PV.sc (.int .u8 (IntKind.u8.wrap (IntKind.u64.wrap ((48 : Int) + ((n : Int).tmod 10)))))] = B [dc (n % 10)] := by
  have e : Int.tmod (n : Int) 10 = ((n % 10 : Nat) : Int) := by rw [Int.tmod_eq_emod_of_nonneg (by omega)]; omega
  have h : n % 10 < 10 := Nat.mod_lt _ (by decide)
  have e8 : IntKind.u8.wrap ((48 + n % 10 : Nat) : Int) = ((48 + n % 10 : Nat) : Int) := by
    simp [IntKind.wrap, IntKind.bits, IntKind.signed]; omega
  rw [e, u64i (by omega) (by omega), show ((48 : Int) + ((n % 10 : Nat) : Int)) = ((48 + n % 10 : Nat) : Int) by omega, e8]
  rfl
theorem utens (n : Nat) (h : (n : Int) ≤ 18446744073709551615) : IntKind.u64.wrap (Int.tdiv (n : Int) 10) = ((n / 10 : Nat) : Int) := by
  rw [Int.tdiv_eq_ediv_of_nonneg (by omega), u64i (by omega) (by omega)]
  omega
def pvO (q r : Int) (ok : Bool) : PV := .agg [.sc (.int .u64 q), .sc (.int .u64 r), .sc (.bool ok)]
def pvGa (g : Int × Bool) : PV := .agg [.sc (.int .i64 g.1), .sc (.bool g.2)]
theorem small_mul {a b : Int} (h0 : 0 ≤ a) (h1 : a ≤ 4294967295) (b0 : 0 ≤ b) (b1 : b ≤ 10000) : 0 ≤ a * b ∧ a * b ≤ 42949672950000 := by
  refine ⟨Int.mul_nonneg h0 b0, ?_⟩
  have := Int.mul_le_mul h1 b1 b0 (by decide : (0 : Int) ≤ 4294967295)
  exact this
theorem bt46 {l : List UInt8} {i : Nat} (h : i < l.length) : ((bt (B l) (i : Int)) == 46) = (l[i] == 46) := by
  rw [B_bt h, Bool.eq_iff_iff, beq_iff_eq, beq_iff_eq]
  constructor
  · intro h2
    have : l[i].toNat = (46 : UInt8).toNat := by have : (46 : UInt8).toNat = 46 := rfl; omega
    exact UInt8.toNat_inj.1 this
  · intro h2; rw [h2]; rfl
end Go.Den.EL
