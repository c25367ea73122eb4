/- Lists of values: the least, the greatest, the middle, and how many: the law. -/
import Derived.Test.YtcfhllbobapaiaaDoorFoldFF
import Derived.Test.YtcfhllbobapaiaaDoorTyF
set_option linter.unusedVariables false
set_option linter.unusedSimpArgs false
set_option maxRecDepth 100000
namespace Go.Den.EF
open Go Go.Proofs
theorem alive15_ev : D 33 [] = some (.sc (.bool true)) := denI_of (k := 80) (by kernel_rfl)
theorem same_v (v : Vl) : (((v.kind == v.kind) && ((v.num == v.num) && ((v.text.toList == v.text.toList) && true)))) = true := by simp
theorem foldBest_D (l : List Vl) (kind : Int) (hn : ∀ v, v ∈ l → I64 v.num) : D 8 [frozen 3 (vp l), .sc (.int .i64 kind)] = some (.sc (.bool true)) := by
  refine (f8_eq 0 (vp l).length _ kind).trans ?_
  refine cb (right_ev l (fun v hv => (hn v hv).1) 200 (by decide)) rfl ?_
  simp only [tb]
  cases h : rightL l 200
  · exact ip rfl (cb alive15_ev rfl rfl)
  · refine im (by decide) ?_
    unfold rightL at h
    rw [Bool.and_eq_true, decide_eq_true_eq] at h
    have hl : l.length ≤ 1000 := by omega
    refine cb (least_ev l hl) rfl (cb (rbest_ev l false hl hn) rfl ?_)
    simp only [Vl.c0, Vl.c1, Vl.c2, same_v, if_true]
    have e1 := most_ev l hl
    have e2 := rbest_ev l true hl hn
    have e3 := mean_ev l hl hn
    have e4 := rmean_ev l hl hn
    have e5 := fcount_ev l kind hl
    have e6 := rcount_ev l kind hl
    rw [show (PV.lst 3 (vp l).length fun i => (vp l).getD i .top) = frozen 3 (vp l) from rfl, e1, e2, e3, e4, e5, e6, alive15_ev]
    simp [same_v]
theorem vals_of {xs : List PV} (h : ∀ x, x ∈ xs → Ty Tryd.prog 51 x.cells ∧ x = ofCells Tryd.prog 51 x.cells) : ∃ l : List Vl, xs = vp l ∧ ∀ v, v ∈ l → I64 v.num := by
  induction xs with
  | nil => exact ⟨[], rfl, fun v hv => by cases hv⟩
  | cons x xs ih =>
    obtain ⟨l, e, hl⟩ := ih fun y hy => h y (List.mem_cons_of_mem _ hy)
    obtain ⟨h1, h2⟩ := h x List.mem_cons_self
    obtain ⟨k, n, t, e2, _, hb, _⟩ := of51 h1
    rw [e2, ag51] at h2
    refine ⟨⟨k, n, t⟩ :: l, by rw [e, h2]; rfl, fun v hv => ?_⟩
    rcases List.mem_cons.1 hv with rfl | hv
    · exact hb
    · exact hl v hv
theorem foldBest_law (W : World) (vs : List Value) (xs : List PV) (h : Handed Tryd.prog W [56, 3] vs xs) : D 8 xs = some (.sc (.bool true)) := by
  obtain ⟨a, _, _, rfl, ha, h⟩ := handed_cons h
  obtain ⟨b, _, _, rfl, hb, h⟩ := handed_cons h
  obtain rfl := handed_nil h
  obtain ⟨a, rfl, _, la, ha⟩ := of56 ha
  obtain ⟨a, rfl, hn⟩ := vals_of ha
  obtain ⟨b, rfl, _⟩ := of3 hb
  rw [on56, on3]
  exact foldBest_D a b hn
end Go.Den.EF
