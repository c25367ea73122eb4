/- Costs: whether one fits; two together. -/
import Derived.Test.YtcncojlgapknpaaDoorEMx0
import Derived.Test.YtcncojlgapknpaaDoorEMx1
import Derived.Test.YtcncojlgapknpaaDoorEMx2
import Derived.Test.YtcncojlgapknpaaDoorDenV
import Derived.Test.YtcncojlgapknpaaDoorTyM
set_option linter.unusedVariables false
set_option linter.unusedSimpArgs false
set_option maxRecDepth 100000
namespace Go.Den.EM
open Go Go.Proofs
structure C5 where
  a : Int
  b : Int
  c : Int
  d : Int
  e : Int
def C5.pv (v : C5) : PV := .agg [.sc (.int .i64 v.a), .sc (.int .i64 v.b), .sc (.int .i64 v.c), .sc (.int .i64 v.d), .sc (.int .i64 v.e)]
theorem C5.fold (a b c d e : Int) : PV.agg [.sc (.int .i64 a), .sc (.int .i64 b), .sc (.int .i64 c), .sc (.int .i64 d), .sc (.int .i64 e)] = (C5.mk a b c d e).pv := rfl
theorem C5.sh (v : C5) : hasSh (.agg [(.int .i64), (.int .i64), (.int .i64), (.int .i64), (.int .i64)]) v.pv = true := rfl
theorem C5.c0 (v : C5) : (cel 0 v.pv.cells).toInt = v.a := rfl
theorem C5.c1 (v : C5) : (cel 1 v.pv.cells).toInt = v.b := rfl
theorem C5.c2 (v : C5) : (cel 2 v.pv.cells).toInt = v.c := rfl
theorem C5.c3 (v : C5) : (cel 3 v.pv.cells).toInt = v.d := rfl
theorem C5.c4 (v : C5) : (cel 4 v.pv.cells).toInt = v.e := rfl
theorem C5.rb (v : C5) : C5.mk v.a v.b v.c v.d v.e = v := rfl
def inn (n h : Int) : Bool := decide (n ≥ 0) && decide (n ≤ h)
def fits (c b : C5) : Bool := (((c.a == b.a && c.b == b.b) && inn c.c b.c) && inn c.d b.d) && inn c.e b.e
theorem in_ev (n h : Int) : D 82 [.sc (.int .i64 n), .sc (.int .i64 h)] = some (.sc (.bool (inn n h))) := by
  rw [f82_eq 0]; simp only [bA, bs, tb]; rfl
theorem fits_ev (c b : C5) : D 46 [c.pv, b.pv] = some (.sc (.bool (fits c b))) := by
  obtain ⟨c0, c1, c2, c3, c4⟩ := c
  obtain ⟨b0, b1, b2, b3, b4⟩ := b
  refine (f46_eq 0 c0 c1 c2 c3 c4 b0 b1 b2 b3 b4).trans ?_
  simp only [in_ev, bs, shb, if_true, tb, bA]
  rfl
def okN (n : Int) : Bool := inn n 1000000000
def okC (c : C5) : Bool := (((okN c.a && okN c.b) && okN c.c) && okN c.d) && okN c.e
theorem right_ev (n : Int) : D 81 [.sc (.int .i64 n)] = some (.sc (.bool (okN n))) := by
  rw [f81_eq 0]; simp only [bA, bs, tb]; rfl
theorem rights_ev (c : C5) : D 45 [c.pv] = some (.sc (.bool (okC c))) := by
  obtain ⟨c0, c1, c2, c3, c4⟩ := c
  refine (f45_eq 0 c0 c1 c2 c3 c4).trans ?_
  simp only [right_ev, bs, shb, if_true, tb, bA]
  rfl
def addC (a b : C5) : C5 := ⟨IntKind.i64.wrap (a.a + b.a), IntKind.i64.wrap (a.b + b.b), IntKind.i64.wrap (a.c + b.c), IntKind.i64.wrap (a.d + b.d), IntKind.i64.wrap (a.e + b.e)⟩
theorem counts_ev (c : C5) : D 71 [c.pv] = some c.pv := f71_eq 0 c.a c.b c.c c.d c.e
theorem cost_ev (c : C5) : D 77 [c.pv] = some c.pv := f77_eq 0 c.a c.b c.c c.d c.e
theorem add_ev (a b : C5) : D 47 [a.pv, b.pv] = some (addC a b).pv := by
  have ea := counts_ev a
  have eb := counts_ev b
  obtain ⟨a0, a1, a2, a3, a4⟩ := a
  obtain ⟨b0, b1, b2, b3, b4⟩ := b
  refine (f47_eq 0 a0 a1 a2 a3 a4 b0 b1 b2 b3 b4).trans ?_
  simp only [C5.fold] at ea eb ⊢
  rw [ea, eb]
  simp only [bs, C5.sh, if_true, C5.c0, C5.c1, C5.c2, C5.c3, C5.c4]
  rw [f47.l0a_eq, f47.l0b_eq, f47.l0c_eq, f47.l0d_eq, f47.l0e_eq, f47.l0f_eq]
  simp only [C5.fold]
  rw [cost_ev]
  rfl
theorem alive_ev : D 40 [] = some (.sc (.bool true)) := denI_of (k := 60) (by kernel_rfl)
theorem fits_D (c d b m : C5) : D 7 [c.pv, d.pv, .agg [.sc (.int .i64 b.a), .sc (.int .i64 b.b), .sc (.int .i64 b.c), .sc (.int .i64 b.d), .sc (.int .i64 b.e), .sc (.int .i64 m.a), .sc (.int .i64 m.b), .sc (.int .i64 m.c), .sc (.int .i64 m.d), .sc (.int .i64 m.e)]] = some (.sc (.bool true)) := by
  have fe := fits_ev c b
  obtain ⟨c0, c1, c2, c3, c4⟩ := c
  obtain ⟨d0, d1, d2, d3, d4⟩ := d
  obtain ⟨b0, b1, b2, b3, b4⟩ := b
  obtain ⟨m0, m1, m2, m3, m4⟩ := m
  refine (f7_eq 0 c0 c1 c2 c3 c4 d0 d1 d2 d3 d4 b0 b1 b2 b3 b4 m0 m1 m2 m3 m4).trans ?_
  simp only [C5.fold, fits_ev, rights_ev, add_ev, alive_ev, bs, shb, if_true, tb, bA, bO, C5.sh, C5.c0, C5.c1, C5.c2, C5.c3, C5.c4, C5.rb]
  have e : (((((((c0 == b0) && (c1 == b1)) && decide (c2 ≥ 0)) && decide (c2 ≤ b2)) && decide (c3 ≥ 0)) && decide (c3 ≤ b3)) && decide (c4 ≥ 0) && decide (c4 ≤ b4)) = fits ⟨c0, c1, c2, c3, c4⟩ ⟨b0, b1, b2, b3, b4⟩ := by
    simp only [fits, inn, Bool.and_assoc]
  simp only [e, beq_self_eq_true, Bool.not_true, Bool.false_eq_true, if_false]
  by_cases hR : (((!okC ⟨c0, c1, c2, c3, c4⟩ || !okC ⟨d0, d1, d2, d3, d4⟩) || !okC ⟨m0, m1, m2, m3, m4⟩) || !okC ⟨b0, b1, b2, b3, b4⟩) = true
  · rw [if_pos hR]
  · rw [if_neg hR]
    simp only [Bool.or_eq_true, Bool.not_eq_true', not_or, Bool.not_eq_false, okC, okN, inn, Bool.and_eq_true, decide_eq_true_eq, ge_iff_le] at hR
    obtain ⟨⟨⟨hc, hd⟩, hm⟩, hb⟩ := hR
    have w2 : ∀ {x y : Int}, (0 ≤ x ∧ x ≤ 1000000000) → (0 ≤ y ∧ y ≤ 1000000000) → IntKind.i64.wrap (x + y) = x + y := fun h1 h2 => w64 (by omega) (by omega)
    simp only [w2 hb.1.2 hm.1.2, w2 hb.1.1.2 hm.1.1.2, w2 hb.2 hm.2, w2 hb.1.1.1.1 hm.1.1.1.1, w2 hb.1.1.1.2 hm.1.1.1.2]
    simp only [addC]
    simp only [w2 hc.1.2 hd.1.2, w2 hc.1.1.2 hd.1.1.2, w2 hc.2 hd.2, w2 hc.1.1.1.1 hd.1.1.1.1, w2 hc.1.1.1.2 hd.1.1.1.2]
    simp only [beq_self_eq_true, Bool.and_self, Bool.not_true, Bool.false_eq_true, if_false]
    cases hf : fits ⟨c0, c1, c2, c3, c4⟩ ⟨b0, b1, b2, b3, b4⟩
    · simp
    · simp only [fits, inn, Bool.and_eq_true, beq_iff_eq, decide_eq_true_eq, ge_iff_le] at hf
      have h1 : fits ⟨c0, c1, c2, c3, c4⟩ ⟨b0, b1, b2 + m2, b3 + m3, b4 + m4⟩ = true := by
        simp only [fits, inn, Bool.and_eq_true, beq_iff_eq, decide_eq_true_eq, ge_iff_le]
        omega
      rw [h1]
      cases hg : fits ⟨d0, d1, d2, d3, d4⟩ ⟨m0, m1, m2, m3, m4⟩
      · simp
      · simp only [fits, inn, Bool.and_eq_true, beq_iff_eq, decide_eq_true_eq, ge_iff_le] at hg
        have h2 : fits ⟨c0 + d0, c1 + d1, c2 + d2, c3 + d3, c4 + d4⟩ ⟨b0 + m0, b1 + m1, b2 + m2, b3 + m3, b4 + m4⟩ = true := by
          simp only [fits, inn, Bool.and_eq_true, beq_iff_eq, decide_eq_true_eq, ge_iff_le]
          omega
        rw [h2]
        simp
end Go.Den.EM
