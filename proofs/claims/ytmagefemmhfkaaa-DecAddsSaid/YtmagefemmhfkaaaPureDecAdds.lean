/- DecAdds: the sum, the difference, and the other sign of every two int64s. -/
import Derived.Test.YtmagefemmhfkaaaQAddF
import Derived.Test.YtmagefemmhfkaaaPAx11
namespace Go.Proofs.Ytmagefemmhfkaaa.Pure
open Go Go.RowKit Go.Proofs.Ytmagefemmhfkaaa.PA Go.Proofs.YtmagefemmhfkaaaW.PrintWords Go.Proofs.YtmagefemmhfkaaaW.PrintLast Go.Proofs.YtmagefemmhfkaaaW.PrintMore Go.Proofs.Ytmagefemmhfkaaa.Q
set_option linter.unusedVariables false
set_option linter.unusedSimpArgs false

theorem adds_j2 {a b : Int} (ha : I64 a) (hb : I64 b) : Ev (fun k => oculuslaw08_DecAdds.j2 k a b (addS a b).1 (addS a b).2 false) true := by
  refine Ev.step (fun k => by rw [oculuslaw08_DecAdds.j2]) (Ev.neg (by decide) ?_)
  by_cases h : May a ∧ May b ∧ May (a + b)
  · rw [show addS a b = (a + b, true) from if_pos h]
    refine Ev.pos rfl ?_
    refine Ev.some_bind (sub_f h.2.2.i hb) ?_
    rw [show subS (a + b) b = (a, true) by
      unfold subS; rw [if_pos ⟨h.2.2, h.2.1, by rw [show a + b - b = a by omega]; exact h.1⟩, show a + b - b = a by omega]]
    exact Ev.pos rfl (Ev.pos rfl (Ev.bind alive08 (Ev.now _)))
  · rw [show addS a b = (0, false) from if_neg h]
    exact Ev.neg (by decide) (Ev.bind alive08 (Ev.now _))
theorem DecAdds : oculuslaw08_DecAdds.Pure := by
  intro a b hwa hwb
  have ha : I64 a := i64_of_wf hwa
  have hb : I64 b := i64_of_wf hwb
  refine Ev.rounds (g := fun k => oculuslaw08_DecAdds.f k a b) (r := true) ?_
  refine Ev.congr (fun k => by rw [oculuslaw08_DecAdds.f, add_f ha hb, radd_f ha hb, sub_f ha hb, neg_f hb]) ?_
  refine Ev.some_bind rfl (Ev.some_bind rfl (Ev.some_bind rfl (Ev.some_bind rfl ?_)))
  refine Ev.pos rfl (Ev.neg (by simp) ?_)
  refine Ev.some_bind (rmay_f hb.1 hb.2) ?_
  have j : Ev (fun k => oculuslaw08_DecAdds.j0 k a b (addS a b).1 (addS a b).2 (subS a b).1 (subS a b).2 (negS b).2 false) true := by
    refine Ev.step (fun k => by rw [oculuslaw08_DecAdds.j0]) (Ev.neg (by decide) ?_)
    by_cases hm : May b
    · rw [show negS b = (-b, true) from if_pos hm]
      refine Ev.pos rfl ?_
      have m := hm
      unfold May at m
      rw [w64 (x := -b) (by omega) (by omega)]
      refine Ev.some_bind (radd_f ha (by unfold I64; omega)) ?_
      rw [addS_neg hm]
      refine Ev.step (fun k => by rw [oculuslaw08_DecAdds.j1]) (Ev.pos rfl ?_)
      rw [bne_self_eq_false]
      exact adds_j2 ha hb
    · rw [show negS b = (0, false) from if_neg hm, show subS a b = (0, false) from if_neg (fun h => hm h.2.1)]
      refine Ev.neg (by decide) ?_
      refine Ev.step (fun k => by rw [oculuslaw08_DecAdds.j1]) ?_
      exact Ev.pos rfl (adds_j2 ha hb)
  by_cases hm : May b
  · have e : negS b = (-b, true) := if_pos hm
    rw [e] at j ⊢
    have m := hm
    unfold May at m
    refine Ev.neg (by simp [hm]) (Ev.some_bind (may_f hb.1 hb.2) (Ev.neg (by simp [hm]) (Ev.pos rfl (Ev.pos (by rw [w64 (by omega) (by omega)]) j))))
  · have e : negS b = (0, false) := if_neg hm
    rw [e] at j ⊢
    refine Ev.neg (by simp [hm]) (Ev.some_bind (may_f hb.1 hb.2) (Ev.neg (by simp [hm]) (Ev.neg (by decide) j)))
end Go.Proofs.Ytmagefemmhfkaaa.Pure
