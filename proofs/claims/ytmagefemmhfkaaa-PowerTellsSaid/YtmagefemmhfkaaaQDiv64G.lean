/- bits.Div64 answers the quotient and the rest: all together. -/
import Derived.Test.YtmagefemmhfkaaaQDiv64F
import Derived.Test.YtmagefemmhfkaaaPBx3
import Derived.Test.YtmagefemmhfkaaaPBx3
namespace Go.Proofs.Ytmagefemmhfkaaa.Q
open Go Go.RowKit Go.Proofs.Ytmagefemmhfkaaa.PA Go.Proofs.YtmagefemmhfkaaaW.PrintWords Go.Proofs.YtmagefemmhfkaaaW.PrintLast Go.Proofs.YtmagefemmhfkaaaW.PrintMore
set_option linter.unusedVariables false
set_option linter.unusedSimpArgs false

/-- The table of lengths: row i holds how many binary digits i has. -/
theorem len8 (T : ByteArray) (hT : ∀ i : Fin 256, bt T (i.val : Int) = if i.val = 0 then 0 else (Nat.log2 i.val : Int) + 1) {x : Int} (h0 : 0 < x) (h1 : x < 256) :
    0 < bt T x ∧ bt T x ≤ 8 ∧ 2 ^ (bt T x - 1).toNat ≤ x ∧ x < 2 ^ (bt T x).toNat := by
  obtain ⟨n, rfl⟩ := Int.eq_ofNat_of_zero_le (Int.le_of_lt h0)
  have hn : n < 256 := by omega
  have hn0 : n ≠ 0 := by omega
  have h := hT ⟨n, hn⟩
  dsimp only at h
  rw [if_neg hn0] at h
  rw [h]
  have h8 : Nat.log2 n < 8 := (Nat.log2_lt hn0).2 (by omega)
  have a := Nat.log2_self_le hn0
  have b := @Nat.lt_log2_self n
  refine ⟨by omega, by omega, ?_, ?_⟩
  · rw [show ((Nat.log2 n : Int) + 1 - 1).toNat = Nat.log2 n by omega]; exact_mod_cast a
  · rw [show ((Nat.log2 n : Int) + 1).toNat = Nat.log2 n + 1 by omega]; exact_mod_cast b
def lenT : ByteArray := ⟨#[0, 1, 2, 2, 3, 3, 3, 3, 4, 4, 4, 4, 4, 4, 4, 4, 5, 5, 5, 5, 5, 5, 5, 5, 5, 5, 5, 5, 5, 5, 5, 5, 6, 6, 6, 6, 6, 6, 6, 6, 6, 6, 6, 6, 6, 6, 6, 6, 6, 6, 6, 6, 6, 6, 6, 6, 6, 6, 6, 6, 6, 6, 6, 6, 7, 7, 7, 7, 7, 7, 7, 7, 7, 7, 7, 7, 7, 7, 7, 7, 7, 7, 7, 7, 7, 7, 7, 7, 7, 7, 7, 7, 7, 7, 7, 7, 7, 7, 7, 7, 7, 7, 7, 7, 7, 7, 7, 7, 7, 7, 7, 7, 7, 7, 7, 7, 7, 7, 7, 7, 7, 7, 7, 7, 7, 7, 7, 7, 8, 8, 8, 8, 8, 8, 8, 8, 8, 8, 8, 8, 8, 8, 8, 8, 8, 8, 8, 8, 8, 8, 8, 8, 8, 8, 8, 8, 8, 8, 8, 8, 8, 8, 8, 8, 8, 8, 8, 8, 8, 8, 8, 8, 8, 8, 8, 8, 8, 8, 8, 8, 8, 8, 8, 8, 8, 8, 8, 8, 8, 8, 8, 8, 8, 8, 8, 8, 8, 8, 8, 8, 8, 8, 8, 8, 8, 8, 8, 8, 8, 8, 8, 8, 8, 8, 8, 8, 8, 8, 8, 8, 8, 8, 8, 8, 8, 8, 8, 8, 8, 8, 8, 8, 8, 8, 8, 8, 8, 8, 8, 8, 8, 8, 8, 8, 8, 8, 8, 8, 8, 8, 8, 8, 8, 8, 8, 8]⟩
theorem lenT_ok : ∀ i : Fin 256, bt lenT (i.val : Int) = if i.val = 0 then 0 else (Nat.log2 i.val : Int) + 1 := by decide +kernel
theorem len_body (k : Nat) (x0 x2 : Int) : bits_Len64.j0 (k + 1) x0 x2 = (if x0 ≥ 65536 then (if (x0 / 65536) ≥ 256 then (if 0 ≤ (((x0 / 65536) / 256) % 256) then (if (((x0 / 65536) / 256) % 256) < 256 then (some (wrap64 ((wrap64 ((wrap64 (x2 + 16)) + 8)) + (wrap64 (bt lenT (((x0 / 65536) / 256) % 256)))))) else (none)) else (none)) else (if 0 ≤ ((x0 / 65536) % 256) then (if ((x0 / 65536) % 256) < 256 then (some (wrap64 ((wrap64 (x2 + 16)) + (wrap64 (bt lenT ((x0 / 65536) % 256)))))) else (none)) else (none))) else (if x0 ≥ 256 then (if 0 ≤ ((x0 / 256) % 256) then (if ((x0 / 256) % 256) < 256 then (some (wrap64 ((wrap64 (x2 + 8)) + (wrap64 (bt lenT ((x0 / 256) % 256)))))) else (none)) else (none)) else (if 0 ≤ ((x0) % 256) then (if ((x0) % 256) < 256 then (some (wrap64 (x2 + (wrap64 (bt lenT ((x0) % 256)))))) else (none)) else (none)))) := rfl
theorem pow_shift {t : Int} (ht : 0 ≤ t) (c : Nat) : (2 : Int) ^ (t + c).toNat = 2 ^ t.toNat * 2 ^ c := by
  rw [show (t + c).toNat = t.toNat + c by omega, Int.pow_add]
theorem len_shift {x t : Int} (c : Nat) (ht : 0 < t) (h0 : 2 ^ (t - 1).toNat ≤ x / 2 ^ c) (h1 : x / 2 ^ c < 2 ^ t.toNat) : 2 ^ (t + c - 1).toNat ≤ x ∧ x < 2 ^ (t + c).toNat := by
  have hc : (0 : Int) < 2 ^ c := Int.pow_pos (by decide)
  rw [show t + c - 1 = (t - 1) + c by omega, pow_shift (by omega), pow_shift (by omega)]
  exact ⟨(Int.le_ediv_iff_mul_le hc).1 h0, (Int.ediv_lt_iff_lt_mul hc).1 h1⟩
theorem len_j0 {x b : Int} (h0 : 0 < x) (h1 : x < 4294967296) (hb0 : 0 ≤ b) (hb : b ≤ 32) :
    ∃ n, Ev (fun k => bits_Len64.j0 k x b) (b + n) ∧ 0 < n ∧ n ≤ 32 ∧ 2 ^ (n - 1).toNat ≤ x ∧ x < 2 ^ n.toNat := by
  by_cases c1 : x ≥ 65536
  · by_cases c2 : x / 65536 ≥ 256
    · obtain ⟨a1, a2, a3, a4⟩ := len8 lenT lenT_ok (x := x / 65536 / 256 % 256) (by omega) (by omega)
      rw [show x / 65536 / 256 % 256 = x / 2 ^ 24 by simp; omega] at *
      obtain ⟨d1, d2⟩ := len_shift 24 a1 a3 a4
      refine ⟨bt lenT (x / 2 ^ 24) + 24, Ev.step (fun k => by rw [len_body]) (Ev.pos c1 (Ev.pos c2 ?_)), by omega, by omega, d1, d2⟩
      rw [show x / 65536 / 256 % 256 = x / 2 ^ 24 by simp; omega]
      refine Ev.pos (by simp; omega) (Ev.pos (by simp; omega) ?_)
      rw [w64 (x := bt lenT (x / 2 ^ 24)) (by omega) (by omega), w64 (x := b + 16) (by omega) (by omega), w64 (x := b + 16 + 8) (by omega) (by omega), w64 (by omega) (by omega)]
      rw [show b + 16 + 8 + bt lenT (x / 2 ^ 24) = b + (bt lenT (x / 2 ^ 24) + 24) by omega]; exact Ev.now _
    · obtain ⟨a1, a2, a3, a4⟩ := len8 lenT lenT_ok (x := x / 65536 % 256) (by omega) (by omega)
      rw [show x / 65536 % 256 = x / 2 ^ 16 by simp; omega] at *
      obtain ⟨d1, d2⟩ := len_shift 16 a1 a3 a4
      refine ⟨bt lenT (x / 2 ^ 16) + 16, Ev.step (fun k => by rw [len_body]) (Ev.pos c1 (Ev.neg c2 ?_)), by omega, by omega, d1, d2⟩
      rw [show x / 65536 % 256 = x / 2 ^ 16 by simp; omega]
      refine Ev.pos (by simp; omega) (Ev.pos (by simp; omega) ?_)
      rw [w64 (x := bt lenT (x / 2 ^ 16)) (by omega) (by omega), w64 (x := b + 16) (by omega) (by omega), w64 (by omega) (by omega)]
      rw [show b + 16 + bt lenT (x / 2 ^ 16) = b + (bt lenT (x / 2 ^ 16) + 16) by omega]; exact Ev.now _
  · by_cases c2 : x ≥ 256
    · obtain ⟨a1, a2, a3, a4⟩ := len8 lenT lenT_ok (x := x / 256 % 256) (by omega) (by omega)
      rw [show x / 256 % 256 = x / 2 ^ 8 by simp; omega] at *
      obtain ⟨d1, d2⟩ := len_shift 8 a1 a3 a4
      refine ⟨bt lenT (x / 2 ^ 8) + 8, Ev.step (fun k => by rw [len_body]) (Ev.neg c1 (Ev.pos c2 ?_)), by omega, by omega, d1, d2⟩
      rw [show x / 256 % 256 = x / 2 ^ 8 by simp; omega]
      refine Ev.pos (by simp; omega) (Ev.pos (by simp; omega) ?_)
      rw [w64 (x := bt lenT (x / 2 ^ 8)) (by omega) (by omega), w64 (x := b + 8) (by omega) (by omega), w64 (by omega) (by omega)]
      rw [show b + 8 + bt lenT (x / 2 ^ 8) = b + (bt lenT (x / 2 ^ 8) + 8) by omega]; exact Ev.now _
    · obtain ⟨a1, a2, a3, a4⟩ := len8 lenT lenT_ok (x := x % 256) (by omega) (by omega)
      rw [show x % 256 = x by omega] at *
      refine ⟨bt lenT x, Ev.step (fun k => by rw [len_body]) (Ev.neg c1 (Ev.neg c2 ?_)), by omega, by omega, a3, a4⟩
      rw [show x % 256 = x by omega]
      refine Ev.pos (by omega) (Ev.pos (by omega) ?_)
      rw [w64 (x := bt lenT x) (by omega) (by omega), w64 (by omega) (by omega)]
      exact Ev.now _
theorem len_f {x : Int} (h0 : 0 < x) (h1 : x < 18446744073709551616) : ∃ n, Ev (fun k => bits_Len64.f k x) n ∧ 0 < n ∧ n ≤ 64 ∧ 2 ^ (n - 1).toNat ≤ x ∧ x < 2 ^ n.toNat := by
  by_cases c : x ≥ 4294967296
  · obtain ⟨n, hn, a1, a2, a3, a4⟩ := len_j0 (x := x / 4294967296) (b := 32) (by omega) (by omega) (by omega) (by omega)
    obtain ⟨d1, d2⟩ := len_shift (x := x) 32 a1 (by simpa using a3) (by simpa using a4)
    exact ⟨n + 32, Ev.congr (fun k => by rw [bits_Len64.f]) (Ev.pos c (by rw [Int.add_comm]; exact hn)), by omega, by omega, d1, d2⟩
  · obtain ⟨n, hn, a1, a2, a3, a4⟩ := len_j0 (x := x) (b := 0) (by omega) (by omega) (by omega) (by omega)
    rw [Int.zero_add] at hn
    exact ⟨n, Ev.congr (fun k => by rw [bits_Len64.f]) (Ev.neg c hn), by omega, by omega, a3, a4⟩

/-- How far y is moved up: p times y has 64 binary digits. -/
theorem lead_f {y : Int} (h0 : 0 < y) (h1 : y < 18446744073709551616) : ∃ s : Int, Ev (fun k => bits_LeadingZeros64.f k y) s ∧ 0 ≤ s ∧ s ≤ 63 ∧ 9223372036854775808 ≤ y * 2 ^ s.toNat ∧ y * 2 ^ s.toNat < 18446744073709551616 := by
  obtain ⟨n, hn, a1, a2, a3, a4⟩ := len_f h0 h1
  refine ⟨64 - n, Ev.congr (fun k => by rw [bits_LeadingZeros64.f]) (Ev.bind hn ?_), by omega, by omega, ?_, ?_⟩
  · rw [w64 (by omega) (by omega)]; exact Ev.now _
  · have e : (2 : Int) ^ (n - 1).toNat * 2 ^ (64 - n).toNat = 9223372036854775808 := by
      rw [← Int.pow_add, show (n - 1).toNat + (64 - n).toNat = 63 by omega]; decide
    have := Int.mul_le_mul_of_nonneg_right a3 (c := 2 ^ (64 - n).toNat) (Int.le_of_lt (Int.pow_pos (by decide)))
    omega
  · have e : (2 : Int) ^ n.toNat * 2 ^ (64 - n).toNat = 18446744073709551616 := by
      rw [← Int.pow_add, show n.toNat + (64 - n).toNat = 64 by omega]; decide
    have := Int.mul_lt_mul_of_pos_right a4 (c := 2 ^ (64 - n).toNat) (Int.pow_pos (by decide))
    omega
end Go.Proofs.Ytmagefemmhfkaaa.Q
