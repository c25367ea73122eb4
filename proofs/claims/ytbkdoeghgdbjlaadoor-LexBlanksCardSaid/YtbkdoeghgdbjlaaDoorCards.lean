/-
  DERIVED. GIVEN WITH THE SEED: THE CARDS: each row of YtbkdoeghgdbjlaaDoorRows.lean that lists a variable, with what it lists TIED to the program's text (the seventh form; the later family's looks); each row that meets fmt, with fmt's text TOLD by the authors' own Lean function (tested against real Go, not proved from fmt's source: count such statements apart). THE CARD IS WHAT COUNTS. Prove the row's statement (the work); the ties are given (YtbkdoeghgdbjlaaDoorTie.lean); close each card by the builder's one call (the guide's Derived/Test/ToyasCard.lean, 'card_holds'). Laid BY PROGRAM, IN A SANDBOX (cutbox-door.mjs). By AI agents, Wed Nov 11 2026. No macro, syntax, notation, axiom, sorry.
-/
import Derived.Test.YtbkdoeghgdbjlaaDoorRows
import GoSem.ClaimSeven
namespace Go.Proofs.YtbkdoeghgdbjlaaDoor
namespace Rows

/-- THE TIED CARD OF 'oculuslaw36.MeterText'. -/
def meterTextCard : Claim7 := { stood := { row := meterTextRow, standIns := [], harness := (true, "646b396707617acc46c31cbb428685692c57bf152322d391e1d48374abc83488"), looks := false }, kinds := [], alts := [], laidByText := true, laidKinds := [.data, .data, .data, .data, .listed, .data, .pinned], laidTests := true, laidLooks := .later }
def MeterTextCardSaid : Prop := Claim7.holds Tryd.pinned (.plain (OpenSpec.ofChange meterTextSpec)) meterTextCard

/-- THE TIED CARD OF 'oculuslaw21.LexBlanks'. -/
def lexBlanksCard : Claim7 := { stood := { row := lexBlanksRow, standIns := [], harness := (true, "646b396707617acc46c31cbb428685692c57bf152322d391e1d48374abc83488"), looks := false }, kinds := [], alts := [], laidByText := true, laidKinds := [.data, .data, .data, .data, .listed, .data, .pinned], laidTests := true, laidLooks := .later }
def LexBlanksCardSaid : Prop := Claim7.holds Tryd.pinned (.plain (OpenSpec.ofChange lexBlanksSpec)) lexBlanksCard

/-- THE SECOND FORM's CARD OF 'oculuslaw36.MeterText'. -/
def meterTextUptoCard : Claim7 := { stood := { row := meterTextUptoRow, standIns := [], harness := (true, "646b396707617acc46c31cbb428685692c57bf152322d391e1d48374abc83488"), looks := false }, kinds := [], alts := [], laidByText := true, laidKinds := [.data, .data, .data, .data, .listed, .data, .pinned], laidTests := true, laidLooks := .later }
def MeterTextUptoCardSaid : Prop := Claim7.holds Tryd.pinned (.plain (OpenSpec.upto meterTextSpec)) meterTextUptoCard

/-- THE SECOND FORM's CARD OF 'oculuslaw21.LexBlanks'. -/
def lexBlanksUptoCard : Claim7 := { stood := { row := lexBlanksUptoRow, standIns := [], harness := (true, "646b396707617acc46c31cbb428685692c57bf152322d391e1d48374abc83488"), looks := false }, kinds := [], alts := [], laidByText := true, laidKinds := [.data, .data, .data, .data, .listed, .data, .pinned], laidTests := true, laidLooks := .later }
def LexBlanksUptoCardSaid : Prop := Claim7.holds Tryd.pinned (.plain (OpenSpec.upto lexBlanksSpec)) lexBlanksUptoCard
end Rows
end Go.Proofs.YtbkdoeghgdbjlaaDoor
