/- The reference's step; rests, quotients, odd numbers. -/
import Derived.Test.YtmagefemmhfkaaaQRoundF
import Derived.Test.YtmagefemmhfkaaaPBx19
import Derived.Test.YtmagefemmhfkaaaPBx20
import Derived.Test.YtmagefemmhfkaaaPBx21
import Derived.Test.YtmagefemmhfkaaaPBx21
import Derived.Test.YtmagefemmhfkaaaPBx11
import Derived.Test.YtmagefemmhfkaaaPBx20
import Derived.Test.YtmagefemmhfkaaaPBx12
import Derived.Test.YtmagefemmhfkaaaPBx11
namespace Go.Proofs.Ytmagefemmhfkaaa.Q
open Go Go.RowKit Go.Proofs.Ytmagefemmhfkaaa.PA Go.Proofs.YtmagefemmhfkaaaW.PrintWords Go.Proofs.YtmagefemmhfkaaaW.PrintLast Go.Proofs.YtmagefemmhfkaaaW.PrintMore
set_option linter.unusedVariables false
set_option linter.unusedSimpArgs false

def mulS (a b : Int) : Int × Bool := if May a ∧ May b ∧ May (a * b) then (a * b, true) else (0, false)
theorem mulS_yes {a b : Int} (h : May a ∧ May b ∧ May (a * b)) : mulS a b = (a * b, true) := if_pos h
theorem mulS_no {a b : Int} (h : ¬ May (a * b)) : mulS a b = (0, false) := if_neg (fun hh => h hh.2.2)
theorem sg_one (a b : Int) : sg a b 1 ((a.natAbs : Int) * b.natAbs) = a * b := by
  unfold sg
  rcases (by omega : a < 0 ∨ 0 ≤ a) with ha | ha <;> rcases (by omega : b < 0 ∨ 0 ≤ b) with hb | hb
  · rw [decide_eq_true ha, decide_eq_true hb, Int.ofNat_natAbs_of_nonpos (by omega), Int.ofNat_natAbs_of_nonpos (by omega)]
    simp [Int.neg_mul_neg]
  · rw [decide_eq_true ha, decide_eq_false (by omega), Int.ofNat_natAbs_of_nonpos (by omega), Int.natAbs_of_nonneg hb]
    simp [Int.neg_mul]
  · rw [decide_eq_false (by omega), decide_eq_true hb, Int.natAbs_of_nonneg ha, Int.ofNat_natAbs_of_nonpos (by omega)]
    simp [Int.mul_neg]
  · rw [decide_eq_false (by omega), decide_eq_false (by omega), Int.natAbs_of_nonneg ha, Int.natAbs_of_nonneg hb]
    simp
theorem scaledR_one (a b : Int) : scaledR a b 1 = mulS a b := by
  unfold scaledR mulS upR
  have e1 : ((1 : Int).natAbs : Int) = 1 := rfl
  rw [e1, Int.ediv_one, Int.emod_one, if_neg (show ¬ (1 : Int) - 0 ≤ 0 by decide), sg_one]
  have hab : (a.natAbs : Int) * b.natAbs = ((a * b).natAbs : Int) := by rw [Int.natAbs_mul]; simp
  rw [hab]
  by_cases h : May a ∧ May b ∧ May (a * b)
  · have h3 := h.2.2
    unfold May at h3
    rw [if_pos ⟨h.1, h.2.1, by decide, by decide⟩, if_pos h, if_neg (by omega), if_neg (by omega)]
  · rw [if_neg h]
    by_cases h2 : May a ∧ May b ∧ May 1 ∧ (1 : Int) ≠ 0
    · rw [if_pos h2]
      have h3 : ¬ May (a * b) := fun hh => h ⟨h2.1, h2.2.1, hh⟩
      unfold May at h3
      rw [if_pos (by omega)]
    · rw [if_neg h2]
theorem scaledP_one (a b : Int) : scaledP a b 1 = mulS a b := by
  rw [scaled_eq, scaledR_one]
  have e1 : ((1 : Int).natAbs : Int) = 1 := rfl
  rw [e1, Int.emod_one]
  omega
theorem times9_ev {a b : Int} (ha : I64 a) (hb : I64 b) : Ev (fun k => oculusref09_times.f k a b) (mulS a b) := by
  have h := rscaled_ev ha.1 ha.2 hb.1 hb.2 (c := 1) (by decide) (by decide)
  rw [scaledR_one] at h
  exact Ev.congr (fun k => by rw [oculusref09_times.f]) (Ev.bind h (Ev.now _))

/-- The quotient that is not above, and the rest from 0 on. -/
theorem down_neg {x s : Int} (hs : 0 < s) (hx : x < 0) (hr : x.tmod s ≠ 0) : x / s = x.tdiv s - 1 ∧ x % s = x.tmod s + s := by
  have t := tdm x hs
  refine (Int.ediv_emod_unique hs).2 ⟨?_, by omega, by omega⟩
  rw [Int.mul_sub, Int.mul_one, Int.mul_comm s]
  omega
theorem down_f {x s : Int} (hs : 0 < s) (hs1 : s ≤ 9223372036854775807) (hx : May x) : oculusref09_down.f x s = some (x / s) := by
  have t := tdm x hs
  have t2 := tdlow x hs
  have mx_ := hx
  unfold May at mx_
  have hq := Int.natAbs_tdiv_le_natAbs x s
  unfold oculusref09_down.f
  rw [if_neg (by omega), w64 (x := x.tdiv s) (by omega) (by omega), w64 (x := x.tdiv s * s) (by omega) (by omega)]
  by_cases hn : x < 0
  · rw [if_pos hn]
    by_cases hr : x.tmod s = 0
    · rw [if_pos (by omega)]
      have e : x / s = x.tdiv s := ((Int.ediv_emod_unique hs).2 ⟨by rw [Int.mul_comm s]; omega, Int.le_refl 0, hs⟩).1
      rw [e]
    · rw [if_neg (by omega), (down_neg hs hn hr).1, w64 (by omega) (by omega)]
  · rw [if_neg hn, Int.tdiv_eq_ediv_of_nonneg (by omega)]

theorem rstep_ev {x s m : Int} (hx : I64 x) (hs : I64 s) : Ev (fun k => oculusref09_Step.f k x s m) (stepS x s m) := by
  have no : ¬ StepOk x s m → Ev (fun k => oculusref09_Step.j0 k x s m true) (stepS x s m) := fun h => by
    rw [stepS, if_neg h]; exact Ev.step (fun k => by rw [oculusref09_Step.j0]) (Ev.pos rfl (Ev.now _))
  unfold I64 at hx hs
  refine Ev.congr (fun k => by rw [oculusref09_Step.f]) ?_
  refine Ev.ite (fun h => no (fun hh => by unfold StepOk at hh; omega)) (fun h1 => ?_)
  refine Ev.some_bind (rmay_f hx.1 hx.2) ?_
  refine Ev.ite (fun h => ?_) (fun h => no (fun hh => h (decide_eq_true hh.2.1)))
  have hm := of_decide_eq_true h
  refine Ev.ite (fun h => no (fun hh => by unfold StepOk at hh; omega)) (fun h2 => ?_)
  by_cases h3 : m > 5
  · rw [decide_eq_true h3]; exact no (fun hh => by unfold StepOk at hh; omega)
  · rw [decide_eq_false h3]
    have ok : StepOk x s m := ⟨by omega, hm, by omega, by omega⟩
    have hs0 : 0 < s := by omega
    have t := tdm x hs0
    have t2 := tdlow x hs0
    have mx_ := hm
    unfold May at mx_
    have hd := Int.mul_ediv_add_emod x s
    have hd0 := Int.emod_nonneg x (b := s) (by omega)
    have hd1 := Int.emod_lt_of_pos x hs0
    have hq := Int.natAbs_tdiv_le_natAbs x s
    refine Ev.step (fun k => by rw [oculusref09_Step.j0]) (Ev.neg (by decide) (Ev.some_bind (down_f hs0 hs.2 hm) ?_))
    have elow : IntKind.u64.wrap (IntKind.u64.wrap x - IntKind.u64.wrap (IntKind.u64.wrap (x / s) * IntKind.u64.wrap s)) = x % s := by
      have e : (IntKind.u64.wrap (x / s) * IntKind.u64.wrap s) % 18446744073709551616 = (s * (x / s)) % 18446744073709551616 := by
        rw [u64w, u64w, Int.mul_comm s, ← Int.mul_emod]
      rw [u64w (IntKind.u64.wrap (x / s) * IntKind.u64.wrap s), e, u64w x, u64w]
      generalize s * (x / s) = z at *
      omega
    rw [elow, u64i (x := s) (by omega) (by omega), u64i (x := s - x % s) (by omega) (by omega)]
    rw [stepS, if_pos ok]
    by_cases hr : x.tmod s = 0
    · have e : x % s = 0 := by
        by_cases hn : 0 ≤ x
        · rw [← Int.tmod_eq_emod_of_nonneg hn]; exact hr
        · exact ((Int.ediv_emod_unique (q := x.tdiv s) (r := 0) hs0).2 ⟨by rw [Int.mul_comm s]; omega, Int.le_refl 0, hs0⟩).2
      rw [if_pos hr]
      exact Ev.pos e (Ev.now _)
    · rw [if_neg hr]
      by_cases hn : x < 0
      · obtain ⟨e1, e2⟩ := down_neg hs0 hn hr
        rw [if_pos hn, e2]
        have hs2 : x.tmod s + s ≠ 0 := by omega
        have up : Ev (fun k => (oculusref09_times.f k (wrap64 (x / s + 1)) s).bind fun b => some (b.1, b.2)) (x - x.tmod s, true) := by
          rw [e1, w64 (by omega) (by omega), show x.tdiv s - 1 + 1 = x.tdiv s by omega]
          have h := times9_ev (a := x.tdiv s) (b := s) (by unfold I64; omega) hs
          rw [mulS, if_pos ⟨by unfold May; omega, by unfold May; omega, by unfold May; omega⟩, show x.tdiv s * s = x - x.tmod s by omega] at h
          exact Ev.bind h (Ev.now _)
        have dn : Ev (fun k => (oculusref09_times.f k (x / s) s).bind fun b => some (b.1, b.2)) (addS (x - x.tmod s) (-s)) := by
          rw [e1]
          have h := times9_ev (a := x.tdiv s - 1) (b := s) (by unfold I64; omega) hs
          have em : (x.tdiv s - 1) * s = x - x.tmod s + -s := by rw [Int.sub_mul, Int.one_mul]; omega
          have ee : mulS (x.tdiv s - 1) s = addS (x - x.tmod s) (-s) := by
            unfold mulS addS
            rw [em]
            by_cases hh : May (x - x.tmod s + -s)
            · have h9 := hh
              unfold May at h9
              have hq1 : x.tdiv s = -9223372036854775807 → s = 1 := by
                intro h7
                by_cases h8 : s = 1
                · exact h8
                · exfalso
                  have : 2 * (x.tdiv s) ≥ s * x.tdiv s := by
                    have := Int.mul_le_mul_of_nonpos_right (show (2 : Int) ≤ s by omega) (show x.tdiv s ≤ 0 by omega)
                    omega
                  rw [Int.mul_comm s] at this
                  omega
              have hs1 : s ≠ 1 := fun h8 => by subst h8; simp at hr
              rw [if_pos ⟨by unfold May; omega, by unfold May; omega, hh⟩, if_pos ⟨by unfold May; omega, by unfold May; omega, hh⟩]
            · rw [if_neg (fun h9 => hh h9.2.2), if_neg (fun h9 => hh h9.2.2)]
          rw [ee] at h
          exact Ev.bind h (Ev.now _)
        have yes : Away x s m → Ev (fun k => (oculusref09_times.f k (x / s) s).bind fun b => some (b.1, b.2)) (if Away x s m then addS (x - x.tmod s) (-s) else (x - x.tmod s, true)) := fun h => by rw [if_pos h]; exact dn
        have nay : ¬ Away x s m → Ev (fun k => (oculusref09_times.f k (wrap64 (x / s + 1)) s).bind fun b => some (b.1, b.2)) (if Away x s m then addS (x - x.tmod s) (-s) else (x - x.tmod s, true)) := fun h => by rw [if_neg h]; exact up
        refine Ev.neg hs2 ?_
        repeat' first | refine Ev.ite (fun _ => ?_) (fun _ => ?_)
        all_goals first
          | (exfalso; omega)
          | (refine yes ?_; unfold Away; omega)
          | (refine nay ?_; unfold Away; omega)
      · have e2 : x % s = x.tmod s := (Int.tmod_eq_emod_of_nonneg (by omega)).symm
        have e1 : x / s = x.tdiv s := (Int.tdiv_eq_ediv_of_nonneg (by omega)).symm
        rw [if_neg hn, e2]
        have hs1 : s ≠ 1 := fun h8 => by subst h8; simp at hr
        have hq2 : 2 * x.tdiv s ≤ s * x.tdiv s := Int.mul_le_mul_of_nonneg_right (by omega) (Int.tdiv_nonneg (by omega) (by omega))
        rw [Int.mul_comm s] at hq2
        have hqn : 0 ≤ x.tdiv s := Int.tdiv_nonneg (by omega) (by omega)
        have dn : Ev (fun k => (oculusref09_times.f k (x / s) s).bind fun b => some (b.1, b.2)) (x - x.tmod s, true) := by
          rw [e1]
          have h := times9_ev (a := x.tdiv s) (b := s) (by unfold I64; omega) hs
          rw [mulS, if_pos ⟨by unfold May; omega, by unfold May; omega, by unfold May; omega⟩, show x.tdiv s * s = x - x.tmod s by omega] at h
          exact Ev.bind h (Ev.now _)
        have up : Ev (fun k => (oculusref09_times.f k (wrap64 (x / s + 1)) s).bind fun b => some (b.1, b.2)) (addS (x - x.tmod s) s) := by
          rw [e1, w64 (by omega) (by omega)]
          have h := times9_ev (a := x.tdiv s + 1) (b := s) (by unfold I64; omega) hs
          have em : (x.tdiv s + 1) * s = x - x.tmod s + s := by rw [Int.add_mul, Int.one_mul]; omega
          have ee : mulS (x.tdiv s + 1) s = addS (x - x.tmod s) s := by
            unfold mulS addS
            rw [em]
            by_cases hh : May (x - x.tmod s + s)
            · rw [if_pos ⟨by unfold May; omega, by unfold May; omega, hh⟩, if_pos ⟨by unfold May; omega, by unfold May; omega, hh⟩]
            · rw [if_neg (fun h9 => hh h9.2.2), if_neg (fun h9 => hh h9.2.2)]
          rw [ee] at h
          exact Ev.bind h (Ev.now _)
        have yes : Away x s m → Ev (fun k => (oculusref09_times.f k (wrap64 (x / s + 1)) s).bind fun b => some (b.1, b.2)) (if Away x s m then addS (x - x.tmod s) s else (x - x.tmod s, true)) := fun h => by rw [if_pos h]; exact up
        have nay : ¬ Away x s m → Ev (fun k => (oculusref09_times.f k (x / s) s).bind fun b => some (b.1, b.2)) (if Away x s m then addS (x - x.tmod s) s else (x - x.tmod s, true)) := fun h => by rw [if_neg h]; exact dn
        refine Ev.neg hr ?_
        repeat' first | refine Ev.ite (fun _ => ?_) (fun _ => ?_)
        all_goals first
          | (exfalso; omega)
          | (refine yes ?_; unfold Away; omega)
          | (refine nay ?_; unfold Away; omega)
end Go.Proofs.Ytmagefemmhfkaaa.Q
