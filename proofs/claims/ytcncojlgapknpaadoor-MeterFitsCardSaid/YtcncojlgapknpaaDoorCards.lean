/-
  DERIVED. GIVEN WITH THE SEED: THE CARDS: each row of YtcncojlgapknpaaDoorRows.lean that lists a variable, with what it lists TIED to the program's text (the seventh form; the later family's looks); each row that meets fmt, with fmt's text TOLD by the authors' own Lean function (tested against real Go, not proved from fmt's source: count such statements apart). THE CARD IS WHAT COUNTS. Prove the row's statement (the work); the ties are given (YtcncojlgapknpaaDoorTie.lean); close each card by the builder's one call (the guide's Derived/Test/ToyasCard.lean, 'card_holds'). Laid BY PROGRAM, IN A SANDBOX (cutbox-door.mjs). By AI agents, Wed Nov 11 2026. No macro, syntax, notation, axiom, sorry.
-/
import Derived.Test.YtcncojlgapknpaaDoorRows
import GoSem.ClaimSeven
namespace Go.Proofs.YtcncojlgapknpaaDoor
namespace Rows

/-- THE TIED CARD OF 'oculuslaw42.LedgerNotes'. -/
def ledgerNotesCard : Claim7 := { stood := { row := ledgerNotesRow, standIns := [], harness := (true, "840f64fb5a7a92af95e2942e72c3a01e5ee307b996fef8361d291a5df342dbc0"), looks := false }, kinds := [], alts := [], laidByText := true, laidKinds := [.data, .data, .data, .data, .pinned], laidTests := true, laidLooks := .later }
def LedgerNotesCardSaid : Prop := Claim7.holds Tryd.pinned (.plain (OpenSpec.ofChange ledgerNotesSpec)) ledgerNotesCard

/-- THE TIED CARD OF 'oculuslaw41.DiffBack'. -/
def diffBackCard : Claim7 := { stood := { row := diffBackRow, standIns := [], harness := (true, "840f64fb5a7a92af95e2942e72c3a01e5ee307b996fef8361d291a5df342dbc0"), looks := false }, kinds := [], alts := [], laidByText := true, laidKinds := [.data, .data, .data, .data, .pinned], laidTests := true, laidLooks := .later }
def DiffBackCardSaid : Prop := Claim7.holds Tryd.pinned (.plain (OpenSpec.ofChange diffBackSpec)) diffBackCard

/-- THE TIED CARD OF 'oculuslaw12.ValueMakes'. -/
def valueMakesCard : Claim7 := { stood := { row := valueMakesRow, standIns := [], harness := (true, "840f64fb5a7a92af95e2942e72c3a01e5ee307b996fef8361d291a5df342dbc0"), looks := false }, kinds := [], alts := [], laidByText := true, laidKinds := [.data, .data, .data, .data, .pinned], laidTests := true, laidLooks := .later }
def ValueMakesCardSaid : Prop := Claim7.holds Tryd.pinned (.plain (OpenSpec.ofChange valueMakesSpec)) valueMakesCard

/-- THE TIED CARD OF 'oculuslaw36.MeterText'. -/
def meterTextCard : Claim7 := { stood := { row := meterTextRow, standIns := [], harness := (true, "840f64fb5a7a92af95e2942e72c3a01e5ee307b996fef8361d291a5df342dbc0"), looks := false }, kinds := [], alts := [], laidByText := true, laidKinds := [.data, .data, .data, .data, .listed, .data, .pinned], laidTests := true, laidLooks := .later }
def MeterTextCardSaid : Prop := Claim7.holds Tryd.pinned (.plain (OpenSpec.ofChange meterTextSpec)) meterTextCard

/-- THE TIED CARD OF 'oculuslaw36.MeterFits'. -/
def meterFitsCard : Claim7 := { stood := { row := meterFitsRow, standIns := [], harness := (true, "840f64fb5a7a92af95e2942e72c3a01e5ee307b996fef8361d291a5df342dbc0"), looks := false }, kinds := [], alts := [], laidByText := true, laidKinds := [.data, .data, .data, .data, .listed, .data, .pinned], laidTests := true, laidLooks := .later }
def MeterFitsCardSaid : Prop := Claim7.holds Tryd.pinned (.plain (OpenSpec.ofChange meterFitsSpec)) meterFitsCard

/-- THE SECOND FORM's CARD OF 'oculuslaw42.LedgerNotes'. -/
def ledgerNotesUptoCard : Claim7 := { stood := { row := ledgerNotesUptoRow, standIns := [], harness := (true, "840f64fb5a7a92af95e2942e72c3a01e5ee307b996fef8361d291a5df342dbc0"), looks := false }, kinds := [], alts := [], laidByText := true, laidKinds := [.data, .data, .data, .data, .pinned], laidTests := true, laidLooks := .later }
def LedgerNotesUptoCardSaid : Prop := Claim7.holds Tryd.pinned (.plain (OpenSpec.upto ledgerNotesSpec)) ledgerNotesUptoCard

/-- THE SECOND FORM's CARD OF 'oculuslaw41.DiffBack'. -/
def diffBackUptoCard : Claim7 := { stood := { row := diffBackUptoRow, standIns := [], harness := (true, "840f64fb5a7a92af95e2942e72c3a01e5ee307b996fef8361d291a5df342dbc0"), looks := false }, kinds := [], alts := [], laidByText := true, laidKinds := [.data, .data, .data, .data, .pinned], laidTests := true, laidLooks := .later }
def DiffBackUptoCardSaid : Prop := Claim7.holds Tryd.pinned (.plain (OpenSpec.upto diffBackSpec)) diffBackUptoCard

/-- THE SECOND FORM's CARD OF 'oculuslaw12.ValueMakes'. -/
def valueMakesUptoCard : Claim7 := { stood := { row := valueMakesUptoRow, standIns := [], harness := (true, "840f64fb5a7a92af95e2942e72c3a01e5ee307b996fef8361d291a5df342dbc0"), looks := false }, kinds := [], alts := [], laidByText := true, laidKinds := [.data, .data, .data, .data, .pinned], laidTests := true, laidLooks := .later }
def ValueMakesUptoCardSaid : Prop := Claim7.holds Tryd.pinned (.plain (OpenSpec.upto valueMakesSpec)) valueMakesUptoCard

/-- THE SECOND FORM's CARD OF 'oculuslaw36.MeterText'. -/
def meterTextUptoCard : Claim7 := { stood := { row := meterTextUptoRow, standIns := [], harness := (true, "840f64fb5a7a92af95e2942e72c3a01e5ee307b996fef8361d291a5df342dbc0"), looks := false }, kinds := [], alts := [], laidByText := true, laidKinds := [.data, .data, .data, .data, .listed, .data, .pinned], laidTests := true, laidLooks := .later }
def MeterTextUptoCardSaid : Prop := Claim7.holds Tryd.pinned (.plain (OpenSpec.upto meterTextSpec)) meterTextUptoCard

/-- THE SECOND FORM's CARD OF 'oculuslaw36.MeterFits'. -/
def meterFitsUptoCard : Claim7 := { stood := { row := meterFitsUptoRow, standIns := [], harness := (true, "840f64fb5a7a92af95e2942e72c3a01e5ee307b996fef8361d291a5df342dbc0"), looks := false }, kinds := [], alts := [], laidByText := true, laidKinds := [.data, .data, .data, .data, .listed, .data, .pinned], laidTests := true, laidLooks := .later }
def MeterFitsUptoCardSaid : Prop := Claim7.holds Tryd.pinned (.plain (OpenSpec.upto meterFitsSpec)) meterFitsUptoCard
end Rows
end Go.Proofs.YtcncojlgapknpaaDoor
