/- PowerTells: every power of every decimal, or that there is none, is the reference's. -/
import Derived.Test.YtmagefemmhfkaaaQPowU
import Derived.Test.YtmagefemmhfkaaaPBx29
namespace Go.Proofs.Ytmagefemmhfkaaa.Pure
open Go Go.RowKit Go.Proofs.Ytmagefemmhfkaaa.PA Go.Proofs.YtmagefemmhfkaaaW.PrintWords Go.Proofs.YtmagefemmhfkaaaW.PrintLast Go.Proofs.YtmagefemmhfkaaaW.PrintMore Go.Proofs.Ytmagefemmhfkaaa.Q
set_option linter.unusedVariables false
set_option linter.unusedSimpArgs false

theorem PowerTells : oculuslaw10_PowerTells.Pure := by
  intro x n hwx hwn
  have hx := i64_of_wf hwx
  have hn := i64_of_wf hwn
  refine Ev.rounds (g := fun k => oculuslaw10_PowerTells.f k x n) (r := true) ?_
  refine Ev.congr (fun k => by rw [oculuslaw10_PowerTells.f]) ?_
  refine Ev.bind (power_ev hx hn) (Ev.bind (rpower_ev hx hn) ?_)
  rw [power_same]
  have r : ∀ b : Bool, (b == b) = true := by decide
  exact Ev.pos rfl (Ev.pos (r _) (Ev.bind alive10 (Ev.now _)))
end Go.Proofs.Ytmagefemmhfkaaa.Pure
