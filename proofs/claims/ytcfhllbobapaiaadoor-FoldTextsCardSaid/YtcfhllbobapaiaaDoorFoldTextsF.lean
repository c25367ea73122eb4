/- Lists of values as texts, and as truths: the law. -/
import Derived.Test.YtcfhllbobapaiaaDoorFoldCF
import Derived.Test.YtcfhllbobapaiaaDoorTyF
set_option linter.unusedVariables false
set_option linter.unusedSimpArgs false
set_option maxRecDepth 100000
namespace Go.Den.EF
open Go Go.Proofs
theorem alive15_ev : D 33 [] = some (.sc (.bool true)) := denI_of (k := 80) (by kernel_rfl)
theorem same_v (v : Vl) : (((v.kind == v.kind) && ((v.num == v.num) && ((v.text.toList == v.text.toList) && true)))) = true := by simp
theorem foldTexts_D (l : List Vl) (hn : ∀ v, v ∈ l → I64 v.num) : D 10 [frozen 3 (vp l)] = some (.sc (.bool true)) := by
  refine (f10_eq 0 (vp l).length _).trans ?_
  refine cb (right_ev l (fun v hv => (hn v hv).1) 200 (by decide)) rfl ?_
  simp only [tb]
  cases h : rightL l 200
  · exact ip rfl (cb alive15_ev rfl rfl)
  · refine im (by decide) ?_
    unfold rightL at h
    rw [Bool.and_eq_true, decide_eq_true_eq] at h
    have hm : ∀ v, v ∈ l → mayV v = true := fun v hv => List.all_eq_true.1 h.2 v hv
    refine cb (concat_ev l (by omega) hn) rfl (cb (rconcat_ev l (by omega) hn hm) rfl ?_)
    simp only [Vl.c0, Vl.c1, Vl.c2, same_v, if_true]
    have e1 := xor_ev l (by omega)
    have e2 := rxor_ev l (by omega) hm
    rw [show (PV.lst 3 (vp l).length fun i => (vp l).getD i .top) = frozen 3 (vp l) from rfl, e1, e2, alive15_ev]
    simp [same_v]
theorem vals_of {xs : List PV} (h : ∀ x, x ∈ xs → Ty Tryd.prog 51 x.cells ∧ x = ofCells Tryd.prog 51 x.cells) : ∃ l : List Vl, xs = vp l ∧ ∀ v, v ∈ l → I64 v.num := by
  induction xs with
  | nil => exact ⟨[], rfl, fun v hv => by cases hv⟩
  | cons x xs ih =>
    obtain ⟨l, e, hl⟩ := ih fun y hy => h y (List.mem_cons_of_mem _ hy)
    obtain ⟨h1, h2⟩ := h x List.mem_cons_self
    obtain ⟨k, n, t, e2, _, hb, _⟩ := of51 h1
    rw [e2, ag51] at h2
    refine ⟨⟨k, n, t⟩ :: l, by rw [e, h2]; rfl, fun v hv => ?_⟩
    rcases List.mem_cons.1 hv with rfl | hv
    · exact hb
    · exact hl v hv
theorem foldTexts_law (W : World) (vs : List Value) (xs : List PV) (h : Handed Tryd.prog W [56] vs xs) : D 10 xs = some (.sc (.bool true)) := by
  obtain ⟨a, _, _, rfl, ha, h⟩ := handed_cons h
  obtain rfl := handed_nil h
  obtain ⟨a, rfl, _, la, ha⟩ := of56 ha
  obtain ⟨a, rfl, hn⟩ := vals_of ha
  rw [on56]
  exact foldTexts_D a hn
end Go.Den.EF
