/- RoundMods: rests, quotients, and the nearest even and odd numbers of every two int64s. -/
import Derived.Test.YtmagefemmhfkaaaQRoundH
import Derived.Test.YtmagefemmhfkaaaPBx22
namespace Go.Proofs.Ytmagefemmhfkaaa.Pure
open Go Go.RowKit Go.Proofs.Ytmagefemmhfkaaa.PA Go.Proofs.YtmagefemmhfkaaaW.PrintWords Go.Proofs.YtmagefemmhfkaaaW.PrintLast Go.Proofs.YtmagefemmhfkaaaW.PrintMore Go.Proofs.Ytmagefemmhfkaaa.Q
set_option linter.unusedVariables false
set_option linter.unusedSimpArgs false

theorem RoundMods : oculuslaw09_RoundMods.Pure := by
  intro a b hwa hwb
  have ha := i64_of_wf hwa
  have hb := i64_of_wf hwb
  refine Ev.rounds (g := fun k => oculuslaw09_RoundMods.f k a b) (r := true) ?_
  refine Ev.congr (fun k => by rw [oculuslaw09_RoundMods.f]) ?_
  refine Ev.bind (mod_ev ha hb) (Ev.bind (rmod_ev ha hb) (Ev.bind (quot_ev ha hb) (Ev.bind (rquot_ev ha hb) (Ev.bind (even_ev ha) (Ev.bind (rstep_ev ha (by unfold I64; omega)) (Ev.bind (odd_ev ha) (Ev.bind (rodd_ev ha) ?_)))))))
  have r : ∀ b : Bool, (b == b) = true := by decide
  exact Ev.pos rfl (Ev.pos (r _) (Ev.pos rfl (Ev.pos (r _) (Ev.pos rfl (Ev.pos (r _) (Ev.pos rfl (Ev.pos (r _) (Ev.bind alive09 (Ev.now _)))))))))
end Go.Proofs.Ytmagefemmhfkaaa.Pure
