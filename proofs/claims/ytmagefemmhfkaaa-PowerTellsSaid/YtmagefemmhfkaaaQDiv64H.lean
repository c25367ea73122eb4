/- bits.Div64 answers the quotient and the rest. -/
import Derived.Test.YtmagefemmhfkaaaQDiv64G
namespace Go.Proofs.Ytmagefemmhfkaaa.Q
open Go Go.RowKit Go.Proofs.Ytmagefemmhfkaaa.PA Go.Proofs.YtmagefemmhfkaaaW.PrintWords Go.Proofs.YtmagefemmhfkaaaW.PrintLast Go.Proofs.YtmagefemmhfkaaaW.PrintMore
set_option linter.unusedVariables false
set_option linter.unusedSimpArgs false

theorem div_j2 {Y s u d e : Int} (hY : 9223372036854775808 ≤ Y) (hY' : Y < 18446744073709551616) (hs0 : 0 ≤ s) (hu0 : 0 ≤ u) (hu : u < Y) (hd0 : 0 ≤ d) (hd : d < 4294967296) (he0 : 0 ≤ e) (he : e < 4294967296) :
    Ev (fun k => bits_Div64.j2 k Y s (Y / 4294967296) (Y % 4294967296) u d e ((u * 4294967296 + d) / Y))
      (((u * 4294967296 + d) * 4294967296 + e) / Y, ((u * 4294967296 + d) * 4294967296 + e) % Y / 2 ^ min s.toNat 64) := by
  have hY0 : 0 < Y := by omega
  have hYe : Y / 4294967296 * 4294967296 + Y % 4294967296 = Y := by omega
  have hm := Int.mul_ediv_add_emod (u * 4294967296 + d) Y
  have hr0 := Int.emod_nonneg (u * 4294967296 + d) (b := Y) (by omega)
  have hr1 := Int.emod_lt_of_pos (u * 4294967296 + d) hY0
  have hq0 : 0 ≤ (u * 4294967296 + d) / Y := Int.ediv_nonneg (by omega) (by omega)
  have hq1 : (u * 4294967296 + d) / Y < 4294967296 := Int.ediv_lt_of_lt_mul hY0 (by omega)
  generalize hQ1 : (u * 4294967296 + d) / Y = Q1 at *
  generalize hR1 : (u * 4294967296 + d) % Y = R1 at *
  have hm2 := Int.mul_ediv_add_emod (R1 * 4294967296 + e) Y
  have hs0' := Int.emod_nonneg (R1 * 4294967296 + e) (b := Y) (by omega)
  have hs1' := Int.emod_lt_of_pos (R1 * 4294967296 + e) hY0
  have hp0 : 0 ≤ (R1 * 4294967296 + e) / Y := Int.ediv_nonneg (by omega) (by omega)
  have hp1 : (R1 * 4294967296 + e) / Y < 4294967296 := Int.ediv_lt_of_lt_mul hY0 (by omega)
  obtain ⟨f1, f2⟩ := two_digits (N := (u * 4294967296 + d) * 4294967296 + e) (U := u) (D1 := d) (D0 := e) (Y := Y) (Q1 := Q1) (R1 := R1) hY0 rfl hm.symm hm2.symm hs0' hs1'
  have un21 : IntKind.u64.wrap (IntKind.u64.wrap (IntKind.u64.wrap (u * 4294967296) + d) - IntKind.u64.wrap (Q1 * Y)) = R1 := by
    rw [Int.mul_comm Q1 Y]; simp only [u64w]; omega
  obtain ⟨g1, g2, g3, g4, g5⟩ := digit_guess (u := R1) (d := e) (yn1 := Y / 4294967296) (yn0 := Y % 4294967296) (by omega) (by omega) (by omega) hr0 he0 he (by omega)
  refine Ev.step (fun k => by rw [bits_Div64.j2]) (Ev.neg (by omega) ?_)
  rw [un21, Int.tdiv_eq_ediv_of_nonneg hr0, u64i (x := R1 / (Y / 4294967296)) g2 (by omega)]
  rw [u64i (x := R1 / (Y / 4294967296) * (Y / 4294967296)) (Int.mul_nonneg g2 (by omega)) (by omega), u64i (x := R1 - _) g4 (by omega)]
  have h := div_l1 (y := Y) (s := s) (yn1 := Y / 4294967296) (yn0 := Y % 4294967296) (u := R1) (d := e) Q1 (by omega) (by omega) (by omega) (by omega) hr0 (by omega) he0 he hs0
    (R1 / (Y / 4294967296) - (R1 * 4294967296 + e) / (Y / 4294967296 * 4294967296 + Y % 4294967296)).toNat (R1 / (Y / 4294967296)) (R1 - R1 / (Y / 4294967296) * (Y / 4294967296)) (by omega) g1 g2 g3 rfl g4 (by omega)
  rw [hYe] at h
  rw [f1, f2]
  have e1 : IntKind.u64.wrap (IntKind.u64.wrap (Q1 * 4294967296) + (R1 * 4294967296 + e) / Y) = Q1 * 4294967296 + (R1 * 4294967296 + e) / Y := by
    rw [u64i (x := Q1 * 4294967296) (by omega) (by omega), u64i (by omega) (by omega)]
  have e2 : IntKind.u64.wrap (IntKind.u64.wrap (IntKind.u64.wrap (R1 * 4294967296) + e) - IntKind.u64.wrap ((R1 * 4294967296 + e) / Y * Y)) = (R1 * 4294967296 + e) % Y := by
    rw [Int.mul_comm _ Y]; simp only [u64w]; omega
  rw [e1, e2] at h
  exact h

theorem div64_ev {hi lo y : Int} (hy : 0 < y) (hy' : y < 18446744073709551616) (h0 : 0 ≤ hi) (h1 : hi < y) (l0 : 0 ≤ lo) (l1 : lo < 18446744073709551616) :
    Ev (fun k => bits_Div64.f k hi lo y) ((hi * 18446744073709551616 + lo) / y, (hi * 18446744073709551616 + lo) % y) := by
  refine Ev.congr (fun k => by rw [bits_Div64.f]) (Ev.neg (by omega) (Ev.neg (by omega) ?_))
  by_cases hz : hi = 0
  · subst hz
    refine Ev.pos rfl ?_
    rw [Int.tdiv_eq_ediv_of_nonneg l0, Int.tmod_eq_emod_of_nonneg l0, Int.zero_mul, Int.zero_add]
    have a := Int.ediv_nonneg l0 (Int.le_of_lt hy)
    have b : lo / y ≤ lo := Int.ediv_le_self _ l0
    rw [u64i a (by omega)]
    exact Ev.now _
  · obtain ⟨s, hs, hs0, hs63, hp0, hp1⟩ := lead_f hy hy'
    refine Ev.neg hz (Ev.bind hs ?_)
    have es : IntKind.u64.wrap s = s := u64i hs0 (by omega)
    have es' : IntKind.u64.wrap (64 - s) = 64 - s := u64i (by omega) (by omega)
    have hpp : (2 : Int) ^ s.toNat * 2 ^ (64 - s).toNat = 18446744073709551616 := by
      rw [← Int.pow_add, show s.toNat + (64 - s).toNat = 64 by omega]; decide
    have hpp0 : (0 : Int) < 2 ^ s.toNat := Int.pow_pos (by decide)
    have hpp1 : (0 : Int) < 2 ^ (64 - s).toNat := Int.pow_pos (by decide)
    have hmin : min s.toNat 64 = s.toNat := Nat.min_eq_left (by omega)
    have eY : shl .u64 y s = y * 2 ^ s.toNat := by
      unfold shl; rw [show IntKind.bits .u64 = 64 from rfl, hmin, u64i (by omega) hp1]
    have hhp : (hi + 1) * 2 ^ s.toNat ≤ y * 2 ^ s.toNat := Int.mul_le_mul_of_nonneg_right (by omega) (Int.le_of_lt hpp0)
    rw [Int.add_mul, Int.one_mul] at hhp
    have hhp0 : 0 ≤ hi * 2 ^ s.toNat := Int.mul_nonneg h0 (Int.le_of_lt hpp0)
    have eH : shl .u64 hi s = hi * 2 ^ s.toNat := by
      unfold shl; rw [show IntKind.bits .u64 = 64 from rfl, hmin, u64i hhp0 (by omega)]
    have eL : shl .u64 lo s = lo * 2 ^ s.toNat % 18446744073709551616 := by
      unfold shl; rw [show IntKind.bits .u64 = 64 from rfl, hmin, u64w]
    have eR : shr .u64 lo (64 - s) = lo / 2 ^ (64 - s).toNat := by
      unfold shr; rw [show IntKind.bits .u64 = 64 from rfl, Nat.min_eq_left (by omega)]
    have hlo0 : 0 ≤ lo / 2 ^ (64 - s).toNat := Int.ediv_nonneg l0 (Int.le_of_lt hpp1)
    have hlo1 : lo / 2 ^ (64 - s).toNat < 2 ^ s.toNat := Int.ediv_lt_of_lt_mul hpp1 (by rw [hpp]; exact l1)
    have hps : (2 : Int) ^ s.toNat ≤ 9223372036854775808 := by
      have : (2 : Int) ^ s.toNat ≤ 2 ^ 63 := by
        have h := Nat.pow_le_pow_right (n := 2) (by decide) (show s.toNat ≤ 63 by omega)
        exact_mod_cast h
      simpa using this
    have eU : Go.bits .or .u64 (hi * 2 ^ s.toNat) (lo / 2 ^ (64 - s).toNat) = hi * 2 ^ s.toNat + lo / 2 ^ (64 - s).toNat :=
      bits_join .u64 64 (by decide) (fun n a b => u64i a (by simpa using b)) s.toNat _ _ hhp0 (Int.mul_emod_left ..) (by show _ < (18446744073709551616 : Int); omega) hlo0 hlo1 (by show _ < (18446744073709551616 : Int); omega)
    simp only [es, es', eY, eH, eL, eR, eU]
    generalize hYd : y * 2 ^ s.toNat = Y at *
    have hloe : lo * 2 ^ s.toNat = lo / 2 ^ (64 - s).toNat * 18446744073709551616 + lo * 2 ^ s.toNat % 18446744073709551616 := by
      have d := Int.mul_ediv_add_emod lo (2 ^ (64 - s).toNat)
      have m0 := Int.emod_nonneg lo (b := 2 ^ (64 - s).toNat) (by omega)
      have m1 := Int.emod_lt_of_pos lo hpp1
      have ee : lo * 2 ^ s.toNat = lo / 2 ^ (64 - s).toNat * 18446744073709551616 + lo % 2 ^ (64 - s).toNat * 2 ^ s.toNat := by
        have : (2 ^ (64 - s).toNat * (lo / 2 ^ (64 - s).toNat) + lo % 2 ^ (64 - s).toNat) * 2 ^ s.toNat = lo * 2 ^ s.toNat := by rw [d]
        rw [← this, Int.add_mul, Int.mul_comm (2 ^ (64 - s).toNat) _, Int.mul_assoc, Int.mul_comm (2 ^ (64 - s).toNat) _, hpp]
      have m2 : 0 ≤ lo % 2 ^ (64 - s).toNat * 2 ^ s.toNat := Int.mul_nonneg m0 (Int.le_of_lt hpp0)
      have m3 : lo % 2 ^ (64 - s).toNat * 2 ^ s.toNat < 18446744073709551616 := by
        have := Int.mul_lt_mul_of_pos_right m1 hpp0
        rw [Int.mul_comm (2 ^ (64 - s).toNat) _, hpp] at this
        exact this
      omega
    have hU1 : hi * 2 ^ s.toNat + lo / 2 ^ (64 - s).toNat < Y := by omega
    generalize hUd : hi * 2 ^ s.toNat + lo / 2 ^ (64 - s).toNat = U at *
    have hU0 : 0 ≤ U := by omega
    have a0 : 0 ≤ lo * 2 ^ s.toNat % 18446744073709551616 := Int.emod_nonneg _ (by decide)
    have a1 : lo * 2 ^ s.toNat % 18446744073709551616 < 18446744073709551616 := Int.emod_lt_of_pos _ (by decide)
    generalize hun : lo * 2 ^ s.toNat % 18446744073709551616 = un10 at *
    refine Ev.pos hs0 (Ev.pos (by omega) (Ev.neg (by omega) ?_))
    rw [and32 (by omega) hp1, and32 a0 a1, Int.tdiv_eq_ediv_of_nonneg hU0]
    obtain ⟨g1, g2, g3, g4, g5⟩ := digit_guess (u := U) (d := un10 / 4294967296) (yn1 := Y / 4294967296) (yn0 := Y % 4294967296) (by omega) (by omega) (by omega) hU0 (by omega) (by omega) (by omega)
    rw [u64i (x := U / (Y / 4294967296)) g2 (by omega), u64i (x := U / (Y / 4294967296) * (Y / 4294967296)) (Int.mul_nonneg g2 (by omega)) (by omega), u64i (x := U - _) g4 (by omega)]
    have hYe : Y / 4294967296 * 4294967296 + Y % 4294967296 = Y := by omega
    have j := div_j2 (Y := Y) (s := s) (u := U) (d := un10 / 4294967296) (e := un10 % 4294967296) hp0 hp1 hs0 hU0 hU1 (by omega) (by omega) (by omega) (by omega)
    have hN : (U * 4294967296 + un10 / 4294967296) * 4294967296 + un10 % 4294967296 = (hi * 18446744073709551616 + lo) * 2 ^ s.toNat := by
      rw [Int.add_mul (hi * 18446744073709551616) lo, hloe, Int.mul_right_comm hi]
      generalize hi * 2 ^ s.toNat = z at *
      omega
    rw [hN, hmin] at j
    have e1 : (hi * 18446744073709551616 + lo) * 2 ^ s.toNat / Y = (hi * 18446744073709551616 + lo) / y := by rw [← hYd, Int.mul_ediv_mul_of_pos_left _ _ hpp0]
    have e2 : (hi * 18446744073709551616 + lo) * 2 ^ s.toNat % Y = 2 ^ s.toNat * ((hi * 18446744073709551616 + lo) % y) := by rw [← hYd, Int.mul_comm _ (2 ^ s.toNat), Int.mul_comm y, Int.mul_emod_mul_of_pos _ _ hpp0]
    rw [e1, e2, Int.mul_ediv_cancel_left _ (by omega)] at j
    refine div_l0 (by omega) (by omega) (by omega) (by omega) hU0 (by omega) (by omega) (by omega) (by rw [hYe]; exact j) (U / (Y / 4294967296) - (U * 4294967296 + un10 / 4294967296) / (Y / 4294967296 * 4294967296 + Y % 4294967296)).toNat (U / (Y / 4294967296)) (U - U / (Y / 4294967296) * (Y / 4294967296)) (by omega) g1 g2 g3 rfl g4 (by omega)
end Go.Proofs.Ytmagefemmhfkaaa.Q
