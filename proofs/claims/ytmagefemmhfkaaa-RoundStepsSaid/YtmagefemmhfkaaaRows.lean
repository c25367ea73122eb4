/-
  No cell of these rows narrows 'for every input' (looked for: loops, veiled, ifaces, maps, wideKeys, modest, calm, conditions, laid).
  DERIVED. THE GIVEN ROWS OF THIS SEAT. 12 by the template 'for every input the law returns true; each argument reads behind the call as it read before'; 0 by the template 'total and deterministic' (their statements: YtmagefemmhfkaaaTotals.lean).
  GIVEN WITH THE SEED: the statements are not yours to turn. If you find one false, say at which input.
  Laid BY PROGRAM, IN A SANDBOX (cutbox-rows.mjs): the forced cells as the released guide's own fill.sh prints them over the translation dc69f2e970bf810a… (all of the seat's roots in one cut). By AI agents, Wed Nov 11 2026. No macro, syntax, notation, axiom, sorry.
-/
import Derived.Test.YtmagefemmhfkaaaChecked
import GoSem.Claim
import GoSem.ClaimJoined
import GoSem.ClaimMapViews
import Derived.JoinedTies
import Derived.KernelRfl
namespace Go.Proofs.Ytmagefemmhfkaaa
/- THE CELL 'sum', in the pinned program and in every row, IS THE sha256 OF THE DUMP (.gsa) THAT YtmagefemmhfkaaaProg.lean LOADS. Nothing in Lean hashes anything: it is a label: what it is worth is what the hold of that sum in a sandbox is worth. -/
noncomputable def Try.pinned : Pinned := { name := "ytmagefemmhfkaaa", sum := "dc69f2e970bf810a5699a8c7487bba1d77f10cc97e02bb3e1b498333845dcd49", checked := Try.checked }
namespace Rows
def none {H : Type} : Left H := { results := [], args := [] }

/-- 'oculuslaw09.RoundNear': WHATEVER THE INPUT: true; the input reads as it did. -/
def roundNearSpec : ChangeSpec := { name := "roundNear", fn := fun _ => fun
  | [d1, d2, d3] => { results := [.lit (.bool true)], args := [d1, d2, d3] }
  | _ => none }
def roundNearRow : OpenClaim := { program := "ytmagefemmhfkaaa", sum := "dc69f2e970bf810a5699a8c7487bba1d77f10cc97e02bb3e1b498333845dcd49", func := "oculus/oculuslaw09.RoundNear", spec := "roundNear", apart := false }
def RoundNearSaid : Prop := roundNearRow.holds Try.pinned (OpenSpec.ofChange roundNearSpec)

/-- ITS FALSE NEIGHBOUR: 'it returns false'. Refute it at one input. -/
def roundNearWrong : ChangeSpec := { name := "roundNear", fn := fun _ => fun
  | [d1, d2, d3] => { results := [.lit (.bool false)], args := [d1, d2, d3] }
  | _ => none }
def RoundNearWrongFalsely : Prop := roundNearRow.holds Try.pinned (OpenSpec.ofChange roundNearWrong)

/-- 'oculuslaw09.RoundSteps': WHATEVER THE INPUT: true; the input reads as it did. -/
def roundStepsSpec : ChangeSpec := { name := "roundSteps", fn := fun _ => fun
  | [d1, d2, d3] => { results := [.lit (.bool true)], args := [d1, d2, d3] }
  | _ => none }
def roundStepsRow : OpenClaim := { program := "ytmagefemmhfkaaa", sum := "dc69f2e970bf810a5699a8c7487bba1d77f10cc97e02bb3e1b498333845dcd49", func := "oculus/oculuslaw09.RoundSteps", spec := "roundSteps", apart := false }
def RoundStepsSaid : Prop := roundStepsRow.holds Try.pinned (OpenSpec.ofChange roundStepsSpec)

/-- ITS FALSE NEIGHBOUR: 'it returns false'. Refute it at one input. -/
def roundStepsWrong : ChangeSpec := { name := "roundSteps", fn := fun _ => fun
  | [d1, d2, d3] => { results := [.lit (.bool false)], args := [d1, d2, d3] }
  | _ => none }
def RoundStepsWrongFalsely : Prop := roundStepsRow.holds Try.pinned (OpenSpec.ofChange roundStepsWrong)

/-- 'oculuslaw08.DecUnits': WHATEVER THE INPUT: true; the input reads as it did. -/
def decUnitsSpec : ChangeSpec := { name := "decUnits", fn := fun _ => fun
  | [d] => { results := [.lit (.bool true)], args := [d] }
  | _ => none }
def decUnitsRow : OpenClaim := { program := "ytmagefemmhfkaaa", sum := "dc69f2e970bf810a5699a8c7487bba1d77f10cc97e02bb3e1b498333845dcd49", func := "oculus/oculuslaw08.DecUnits", spec := "decUnits", named := ["math/bits.divideError", "math/bits.overflowError"], apart := false }
def DecUnitsSaid : Prop := decUnitsRow.holds Try.pinned (OpenSpec.ofChange decUnitsSpec)

/-- ITS FALSE NEIGHBOUR: 'it returns false'. Refute it at one input. -/
def decUnitsWrong : ChangeSpec := { name := "decUnits", fn := fun _ => fun
  | [d] => { results := [.lit (.bool false)], args := [d] }
  | _ => none }
def DecUnitsWrongFalsely : Prop := decUnitsRow.holds Try.pinned (OpenSpec.ofChange decUnitsWrong)

/-- 'oculuslaw08.DecAdds': WHATEVER THE INPUT: true; the input reads as it did. -/
def decAddsSpec : ChangeSpec := { name := "decAdds", fn := fun _ => fun
  | [d1, d2] => { results := [.lit (.bool true)], args := [d1, d2] }
  | _ => none }
def decAddsRow : OpenClaim := { program := "ytmagefemmhfkaaa", sum := "dc69f2e970bf810a5699a8c7487bba1d77f10cc97e02bb3e1b498333845dcd49", func := "oculus/oculuslaw08.DecAdds", spec := "decAdds", named := ["math/bits.divideError", "math/bits.overflowError"], apart := false }
def DecAddsSaid : Prop := decAddsRow.holds Try.pinned (OpenSpec.ofChange decAddsSpec)

/-- ITS FALSE NEIGHBOUR: 'it returns false'. Refute it at one input. -/
def decAddsWrong : ChangeSpec := { name := "decAdds", fn := fun _ => fun
  | [d1, d2] => { results := [.lit (.bool false)], args := [d1, d2] }
  | _ => none }
def DecAddsWrongFalsely : Prop := decAddsRow.holds Try.pinned (OpenSpec.ofChange decAddsWrong)

/-- 'oculuslaw10.PowerTells': WHATEVER THE INPUT: true; the input reads as it did. -/
def powerTellsSpec : ChangeSpec := { name := "powerTells", fn := fun _ => fun
  | [d1, d2] => { results := [.lit (.bool true)], args := [d1, d2] }
  | _ => none }
def powerTellsRow : OpenClaim := { program := "ytmagefemmhfkaaa", sum := "dc69f2e970bf810a5699a8c7487bba1d77f10cc97e02bb3e1b498333845dcd49", func := "oculus/oculuslaw10.PowerTells", spec := "powerTells", recurses := true, named := ["math/bits.divideError", "math/bits.overflowError"], apart := false }
def PowerTellsSaid : Prop := powerTellsRow.holds Try.pinned (OpenSpec.ofChange powerTellsSpec)

/-- ITS FALSE NEIGHBOUR: 'it returns false'. Refute it at one input. -/
def powerTellsWrong : ChangeSpec := { name := "powerTells", fn := fun _ => fun
  | [d1, d2] => { results := [.lit (.bool false)], args := [d1, d2] }
  | _ => none }
def PowerTellsWrongFalsely : Prop := powerTellsRow.holds Try.pinned (OpenSpec.ofChange powerTellsWrong)

/-- 'oculuslaw10.PowerRoots': WHATEVER THE INPUT: true; the input reads as it did. -/
def powerRootsSpec : ChangeSpec := { name := "powerRoots", fn := fun _ => fun
  | [d] => { results := [.lit (.bool true)], args := [d] }
  | _ => none }
def powerRootsRow : OpenClaim := { program := "ytmagefemmhfkaaa", sum := "dc69f2e970bf810a5699a8c7487bba1d77f10cc97e02bb3e1b498333845dcd49", func := "oculus/oculuslaw10.PowerRoots", spec := "powerRoots", recurses := true, named := ["math/bits.divideError", "math/bits.overflowError"], apart := false }
def PowerRootsSaid : Prop := powerRootsRow.holds Try.pinned (OpenSpec.ofChange powerRootsSpec)

/-- ITS FALSE NEIGHBOUR: 'it returns false'. Refute it at one input. -/
def powerRootsWrong : ChangeSpec := { name := "powerRoots", fn := fun _ => fun
  | [d] => { results := [.lit (.bool false)], args := [d] }
  | _ => none }
def PowerRootsWrongFalsely : Prop := powerRootsRow.holds Try.pinned (OpenSpec.ofChange powerRootsWrong)

/-- 'oculuslaw10.PowerDivides': WHATEVER THE INPUT: true; the input reads as it did. -/
def powerDividesSpec : ChangeSpec := { name := "powerDivides", fn := fun _ => fun
  | [d1, d2] => { results := [.lit (.bool true)], args := [d1, d2] }
  | _ => none }
def powerDividesRow : OpenClaim := { program := "ytmagefemmhfkaaa", sum := "dc69f2e970bf810a5699a8c7487bba1d77f10cc97e02bb3e1b498333845dcd49", func := "oculus/oculuslaw10.PowerDivides", spec := "powerDivides", recurses := true, named := ["math/bits.divideError", "math/bits.overflowError"], apart := false }
def PowerDividesSaid : Prop := powerDividesRow.holds Try.pinned (OpenSpec.ofChange powerDividesSpec)

/-- ITS FALSE NEIGHBOUR: 'it returns false'. Refute it at one input. -/
def powerDividesWrong : ChangeSpec := { name := "powerDivides", fn := fun _ => fun
  | [d1, d2] => { results := [.lit (.bool false)], args := [d1, d2] }
  | _ => none }
def PowerDividesWrongFalsely : Prop := powerDividesRow.holds Try.pinned (OpenSpec.ofChange powerDividesWrong)

/-- 'oculuslaw10.PowerChooses': WHATEVER THE INPUT: true; the input reads as it did. -/
def powerChoosesSpec : ChangeSpec := { name := "powerChooses", fn := fun _ => fun
  | [d1, d2] => { results := [.lit (.bool true)], args := [d1, d2] }
  | _ => none }
def powerChoosesRow : OpenClaim := { program := "ytmagefemmhfkaaa", sum := "dc69f2e970bf810a5699a8c7487bba1d77f10cc97e02bb3e1b498333845dcd49", func := "oculus/oculuslaw10.PowerChooses", spec := "powerChooses", recurses := true, named := ["math/bits.divideError", "math/bits.overflowError"], apart := false }
def PowerChoosesSaid : Prop := powerChoosesRow.holds Try.pinned (OpenSpec.ofChange powerChoosesSpec)

/-- ITS FALSE NEIGHBOUR: 'it returns false'. Refute it at one input. -/
def powerChoosesWrong : ChangeSpec := { name := "powerChooses", fn := fun _ => fun
  | [d1, d2] => { results := [.lit (.bool false)], args := [d1, d2] }
  | _ => none }
def PowerChoosesWrongFalsely : Prop := powerChoosesRow.holds Try.pinned (OpenSpec.ofChange powerChoosesWrong)

/-- 'oculuslaw09.RoundMods': WHATEVER THE INPUT: true; the input reads as it did. -/
def roundModsSpec : ChangeSpec := { name := "roundMods", fn := fun _ => fun
  | [d1, d2] => { results := [.lit (.bool true)], args := [d1, d2] }
  | _ => none }
def roundModsRow : OpenClaim := { program := "ytmagefemmhfkaaa", sum := "dc69f2e970bf810a5699a8c7487bba1d77f10cc97e02bb3e1b498333845dcd49", func := "oculus/oculuslaw09.RoundMods", spec := "roundMods", named := ["math/bits.divideError", "math/bits.overflowError"], apart := false }
def RoundModsSaid : Prop := roundModsRow.holds Try.pinned (OpenSpec.ofChange roundModsSpec)

/-- ITS FALSE NEIGHBOUR: 'it returns false'. Refute it at one input. -/
def roundModsWrong : ChangeSpec := { name := "roundMods", fn := fun _ => fun
  | [d1, d2] => { results := [.lit (.bool false)], args := [d1, d2] }
  | _ => none }
def RoundModsWrongFalsely : Prop := roundModsRow.holds Try.pinned (OpenSpec.ofChange roundModsWrong)

/-- 'oculuslaw16.OrderSorts': WHATEVER THE INPUT: true; the input reads as it did. -/
def orderSortsSpec : ChangeSpec := { name := "orderSorts", fn := fun _ => fun
  | [d1, d2, d3] => { results := [.lit (.bool true)], args := [d1, d2, d3] }
  | _ => none }
def orderSortsRow : OpenClaim := { program := "ytmagefemmhfkaaa", sum := "dc69f2e970bf810a5699a8c7487bba1d77f10cc97e02bb3e1b498333845dcd49", func := "oculus/oculuslaw16.OrderSorts", spec := "orderSorts", recurses := true, named := ["math/bits.divideError", "math/bits.overflowError"], apart := false }
def OrderSortsSaid : Prop := orderSortsRow.holds Try.pinned (OpenSpec.ofChange orderSortsSpec)

/-- ITS FALSE NEIGHBOUR: 'it returns false'. Refute it at one input. -/
def orderSortsWrong : ChangeSpec := { name := "orderSorts", fn := fun _ => fun
  | [d1, d2, d3] => { results := [.lit (.bool false)], args := [d1, d2, d3] }
  | _ => none }
def OrderSortsWrongFalsely : Prop := orderSortsRow.holds Try.pinned (OpenSpec.ofChange orderSortsWrong)

/-- 'oculuslaw16.OrderMiddle': WHATEVER THE INPUT: true; the input reads as it did. -/
def orderMiddleSpec : ChangeSpec := { name := "orderMiddle", fn := fun _ => fun
  | [d1, d2] => { results := [.lit (.bool true)], args := [d1, d2] }
  | _ => none }
def orderMiddleRow : OpenClaim := { program := "ytmagefemmhfkaaa", sum := "dc69f2e970bf810a5699a8c7487bba1d77f10cc97e02bb3e1b498333845dcd49", func := "oculus/oculuslaw16.OrderMiddle", spec := "orderMiddle", recurses := true, named := ["math/bits.divideError", "math/bits.overflowError"], apart := false }
def OrderMiddleSaid : Prop := orderMiddleRow.holds Try.pinned (OpenSpec.ofChange orderMiddleSpec)

/-- ITS FALSE NEIGHBOUR: 'it returns false'. Refute it at one input. -/
def orderMiddleWrong : ChangeSpec := { name := "orderMiddle", fn := fun _ => fun
  | [d1, d2] => { results := [.lit (.bool false)], args := [d1, d2] }
  | _ => none }
def OrderMiddleWrongFalsely : Prop := orderMiddleRow.holds Try.pinned (OpenSpec.ofChange orderMiddleWrong)

/-- 'oculuslaw16.OrderTurns': WHATEVER THE INPUT: true; the input reads as it did. -/
def orderTurnsSpec : ChangeSpec := { name := "orderTurns", fn := fun _ => fun
  | [d1, d2] => { results := [.lit (.bool true)], args := [d1, d2] }
  | _ => none }
def orderTurnsRow : OpenClaim := { program := "ytmagefemmhfkaaa", sum := "dc69f2e970bf810a5699a8c7487bba1d77f10cc97e02bb3e1b498333845dcd49", func := "oculus/oculuslaw16.OrderTurns", spec := "orderTurns", recurses := true, named := ["math/bits.divideError", "math/bits.overflowError"], apart := false }
def OrderTurnsSaid : Prop := orderTurnsRow.holds Try.pinned (OpenSpec.ofChange orderTurnsSpec)

/-- ITS FALSE NEIGHBOUR: 'it returns false'. Refute it at one input. -/
def orderTurnsWrong : ChangeSpec := { name := "orderTurns", fn := fun _ => fun
  | [d1, d2] => { results := [.lit (.bool false)], args := [d1, d2] }
  | _ => none }
def OrderTurnsWrongFalsely : Prop := orderTurnsRow.holds Try.pinned (OpenSpec.ofChange orderTurnsWrong)

/- THE SECOND FORM. 'bulk': how many values and letters a reading holds, each counted each time it is reached (what is shared counts as often as it is met; a slice's spare places count too). A statement '..UptoSaid' is the law's where the arguments, and the package variables that the reading takes, are together of bulk at most 1048576: NARROWER than '..Said'. Prove '..Said' where nothing that the law and all that it calls make is longer than what came in: it says more and counts as full. Else prove '..UptoSaid'. A law counts once. -/
mutual
def uptoBulk {H : Type} : DataW H → Nat
  | .lit (.string bytes) => bytes.length + 1
  | .lit _ => 1
  | .nil => 1
  | .ptr d => uptoBulk d + 1
  | .slice elems spare => uptoBulkAll elems + uptoBulkAll spare + 1
  | .agg parts => uptoBulkAll parts + 1
  | .iface _ d => uptoBulk d + 1
  | .map entries => uptoBulkEntries entries + 1
  | .held _ => 1
def uptoBulkAll {H : Type} : List (DataW H) → Nat
  | [] => 0
  | d :: r => uptoBulk d + uptoBulkAll r
def uptoBulkEntries {H : Type} : List (Lit × DataW H) → Nat
  | [] => 0
  | x :: r => uptoBulkEntry x + uptoBulkEntries r
def uptoBulkEntry {H : Type} : Lit × DataW H → Nat
  | (.string bytes, d) => bytes.length + uptoBulk d + 1
  | (_, d) => uptoBulk d + 1
 end
def uptoSmall : (H : Type) → List (DataW H) → Bool := fun _ ds => decide (uptoBulkAll ds ≤ 1048576)
def OpenSpec.upto (s : _root_.Go.ChangeSpec) : _root_.Go.OpenSpec := { _root_.Go.OpenSpec.ofChange s with cond := some uptoSmall }

/-- 'oculuslaw09.RoundNear', WHERE WHAT IT READS IS OF BULK AT MOST 1048576: true; the input reads as it did. -/
def roundNearUptoRow : OpenClaim := { program := "ytmagefemmhfkaaa", sum := "dc69f2e970bf810a5699a8c7487bba1d77f10cc97e02bb3e1b498333845dcd49", func := "oculus/oculuslaw09.RoundNear", spec := "roundNear", apart := false, narrowed := true }
def RoundNearUptoSaid : Prop := roundNearUptoRow.holds Try.pinned (OpenSpec.upto roundNearSpec)

/-- 'oculuslaw09.RoundSteps', WHERE WHAT IT READS IS OF BULK AT MOST 1048576: true; the input reads as it did. -/
def roundStepsUptoRow : OpenClaim := { program := "ytmagefemmhfkaaa", sum := "dc69f2e970bf810a5699a8c7487bba1d77f10cc97e02bb3e1b498333845dcd49", func := "oculus/oculuslaw09.RoundSteps", spec := "roundSteps", apart := false, narrowed := true }
def RoundStepsUptoSaid : Prop := roundStepsUptoRow.holds Try.pinned (OpenSpec.upto roundStepsSpec)

/-- 'oculuslaw08.DecUnits', WHERE WHAT IT READS IS OF BULK AT MOST 1048576: true; the input reads as it did. -/
def decUnitsUptoRow : OpenClaim := { program := "ytmagefemmhfkaaa", sum := "dc69f2e970bf810a5699a8c7487bba1d77f10cc97e02bb3e1b498333845dcd49", func := "oculus/oculuslaw08.DecUnits", spec := "decUnits", named := ["math/bits.divideError", "math/bits.overflowError"], apart := false, narrowed := true }
def DecUnitsUptoSaid : Prop := decUnitsUptoRow.holds Try.pinned (OpenSpec.upto decUnitsSpec)

/-- 'oculuslaw08.DecAdds', WHERE WHAT IT READS IS OF BULK AT MOST 1048576: true; the input reads as it did. -/
def decAddsUptoRow : OpenClaim := { program := "ytmagefemmhfkaaa", sum := "dc69f2e970bf810a5699a8c7487bba1d77f10cc97e02bb3e1b498333845dcd49", func := "oculus/oculuslaw08.DecAdds", spec := "decAdds", named := ["math/bits.divideError", "math/bits.overflowError"], apart := false, narrowed := true }
def DecAddsUptoSaid : Prop := decAddsUptoRow.holds Try.pinned (OpenSpec.upto decAddsSpec)

/-- 'oculuslaw10.PowerTells', WHERE WHAT IT READS IS OF BULK AT MOST 1048576: true; the input reads as it did. -/
def powerTellsUptoRow : OpenClaim := { program := "ytmagefemmhfkaaa", sum := "dc69f2e970bf810a5699a8c7487bba1d77f10cc97e02bb3e1b498333845dcd49", func := "oculus/oculuslaw10.PowerTells", spec := "powerTells", recurses := true, named := ["math/bits.divideError", "math/bits.overflowError"], apart := false, narrowed := true }
def PowerTellsUptoSaid : Prop := powerTellsUptoRow.holds Try.pinned (OpenSpec.upto powerTellsSpec)

/-- 'oculuslaw10.PowerRoots', WHERE WHAT IT READS IS OF BULK AT MOST 1048576: true; the input reads as it did. -/
def powerRootsUptoRow : OpenClaim := { program := "ytmagefemmhfkaaa", sum := "dc69f2e970bf810a5699a8c7487bba1d77f10cc97e02bb3e1b498333845dcd49", func := "oculus/oculuslaw10.PowerRoots", spec := "powerRoots", recurses := true, named := ["math/bits.divideError", "math/bits.overflowError"], apart := false, narrowed := true }
def PowerRootsUptoSaid : Prop := powerRootsUptoRow.holds Try.pinned (OpenSpec.upto powerRootsSpec)

/-- 'oculuslaw10.PowerDivides', WHERE WHAT IT READS IS OF BULK AT MOST 1048576: true; the input reads as it did. -/
def powerDividesUptoRow : OpenClaim := { program := "ytmagefemmhfkaaa", sum := "dc69f2e970bf810a5699a8c7487bba1d77f10cc97e02bb3e1b498333845dcd49", func := "oculus/oculuslaw10.PowerDivides", spec := "powerDivides", recurses := true, named := ["math/bits.divideError", "math/bits.overflowError"], apart := false, narrowed := true }
def PowerDividesUptoSaid : Prop := powerDividesUptoRow.holds Try.pinned (OpenSpec.upto powerDividesSpec)

/-- 'oculuslaw10.PowerChooses', WHERE WHAT IT READS IS OF BULK AT MOST 1048576: true; the input reads as it did. -/
def powerChoosesUptoRow : OpenClaim := { program := "ytmagefemmhfkaaa", sum := "dc69f2e970bf810a5699a8c7487bba1d77f10cc97e02bb3e1b498333845dcd49", func := "oculus/oculuslaw10.PowerChooses", spec := "powerChooses", recurses := true, named := ["math/bits.divideError", "math/bits.overflowError"], apart := false, narrowed := true }
def PowerChoosesUptoSaid : Prop := powerChoosesUptoRow.holds Try.pinned (OpenSpec.upto powerChoosesSpec)

/-- 'oculuslaw09.RoundMods', WHERE WHAT IT READS IS OF BULK AT MOST 1048576: true; the input reads as it did. -/
def roundModsUptoRow : OpenClaim := { program := "ytmagefemmhfkaaa", sum := "dc69f2e970bf810a5699a8c7487bba1d77f10cc97e02bb3e1b498333845dcd49", func := "oculus/oculuslaw09.RoundMods", spec := "roundMods", named := ["math/bits.divideError", "math/bits.overflowError"], apart := false, narrowed := true }
def RoundModsUptoSaid : Prop := roundModsUptoRow.holds Try.pinned (OpenSpec.upto roundModsSpec)

/-- 'oculuslaw16.OrderSorts', WHERE WHAT IT READS IS OF BULK AT MOST 1048576: true; the input reads as it did. -/
def orderSortsUptoRow : OpenClaim := { program := "ytmagefemmhfkaaa", sum := "dc69f2e970bf810a5699a8c7487bba1d77f10cc97e02bb3e1b498333845dcd49", func := "oculus/oculuslaw16.OrderSorts", spec := "orderSorts", recurses := true, named := ["math/bits.divideError", "math/bits.overflowError"], apart := false, narrowed := true }
def OrderSortsUptoSaid : Prop := orderSortsUptoRow.holds Try.pinned (OpenSpec.upto orderSortsSpec)

/-- 'oculuslaw16.OrderMiddle', WHERE WHAT IT READS IS OF BULK AT MOST 1048576: true; the input reads as it did. -/
def orderMiddleUptoRow : OpenClaim := { program := "ytmagefemmhfkaaa", sum := "dc69f2e970bf810a5699a8c7487bba1d77f10cc97e02bb3e1b498333845dcd49", func := "oculus/oculuslaw16.OrderMiddle", spec := "orderMiddle", recurses := true, named := ["math/bits.divideError", "math/bits.overflowError"], apart := false, narrowed := true }
def OrderMiddleUptoSaid : Prop := orderMiddleUptoRow.holds Try.pinned (OpenSpec.upto orderMiddleSpec)

/-- 'oculuslaw16.OrderTurns', WHERE WHAT IT READS IS OF BULK AT MOST 1048576: true; the input reads as it did. -/
def orderTurnsUptoRow : OpenClaim := { program := "ytmagefemmhfkaaa", sum := "dc69f2e970bf810a5699a8c7487bba1d77f10cc97e02bb3e1b498333845dcd49", func := "oculus/oculuslaw16.OrderTurns", spec := "orderTurns", recurses := true, named := ["math/bits.divideError", "math/bits.overflowError"], apart := false, narrowed := true }
def OrderTurnsUptoSaid : Prop := orderTurnsUptoRow.holds Try.pinned (OpenSpec.upto orderTurnsSpec)

end Rows
end Go.Proofs.Ytmagefemmhfkaaa
