/-
  DERIVED. GIVEN WITH THE SEED: THE CARDS: each row of YtcfhllbobapaiaaDoorRows.lean that lists a variable, with what it lists TIED to the program's text (the seventh form; the later family's looks); each row that meets fmt, with fmt's text TOLD by the authors' own Lean function (tested against real Go, not proved from fmt's source: count such statements apart). THE CARD IS WHAT COUNTS. Prove the row's statement (the work); the ties are given (YtcfhllbobapaiaaDoorTie.lean); close each card by the builder's one call (the guide's Derived/Test/ToyasCard.lean, 'card_holds'). Laid BY PROGRAM, IN A SANDBOX (cutbox-door.mjs). By AI agents, Wed Nov 11 2026. No macro, syntax, notation, axiom, sorry.
-/
import Derived.Test.YtcfhllbobapaiaaDoorRows
import GoSem.ClaimSeven
namespace Go.Proofs.YtcfhllbobapaiaaDoor
namespace Rows

/-- THE TIED CARD OF 'oculuslaw11.DigitsTells'. -/
def digitsTellsCard : Claim7 := { stood := { row := digitsTellsRow, standIns := [], harness := (true, "a766dca3dc0ee83263e3661664046ba1af17ea51ceb09c4ba56c1e1dc1d93c80"), looks := false }, kinds := [], alts := [], laidByText := true, laidKinds := [.data, .data, .data, .data, .pinned], laidTests := true, laidLooks := .later }
def DigitsTellsCardSaid : Prop := Claim7.holds Tryd.pinned (.plain (OpenSpec.ofChange digitsTellsSpec)) digitsTellsCard

/-- THE TIED CARD OF 'oculuslaw11.DigitsReads'. -/
def digitsReadsCard : Claim7 := { stood := { row := digitsReadsRow, standIns := [], harness := (true, "a766dca3dc0ee83263e3661664046ba1af17ea51ceb09c4ba56c1e1dc1d93c80"), looks := false }, kinds := [], alts := [], laidByText := true, laidKinds := [.data, .data, .data, .data, .pinned], laidTests := true, laidLooks := .later }
def DigitsReadsCardSaid : Prop := Claim7.holds Tryd.pinned (.plain (OpenSpec.ofChange digitsReadsSpec)) digitsReadsCard

/-- THE TIED CARD OF 'oculuslaw11.DigitsNoughts'. -/
def digitsNoughtsCard : Claim7 := { stood := { row := digitsNoughtsRow, standIns := [], harness := (true, "a766dca3dc0ee83263e3661664046ba1af17ea51ceb09c4ba56c1e1dc1d93c80"), looks := false }, kinds := [], alts := [], laidByText := true, laidKinds := [.data, .data, .data, .data, .pinned], laidTests := true, laidLooks := .later }
def DigitsNoughtsCardSaid : Prop := Claim7.holds Tryd.pinned (.plain (OpenSpec.ofChange digitsNoughtsSpec)) digitsNoughtsCard

/-- THE TIED CARD OF 'oculuslaw43.StatsCount'. -/
def statsCountCard : Claim7 := { stood := { row := statsCountRow, standIns := [], harness := (true, "a766dca3dc0ee83263e3661664046ba1af17ea51ceb09c4ba56c1e1dc1d93c80"), looks := false }, kinds := [], alts := [], laidByText := true, laidKinds := [.data, .data, .data, .data, .listed, .data, .pinned], laidTests := true, laidLooks := .later }
def StatsCountCardSaid : Prop := Claim7.holds Tryd.pinned (.plain (OpenSpec.ofChange statsCountSpec)) statsCountCard

/-- THE TIED CARD OF 'oculuslaw43.StatsAdd'. -/
def statsAddCard : Claim7 := { stood := { row := statsAddRow, standIns := [], harness := (true, "a766dca3dc0ee83263e3661664046ba1af17ea51ceb09c4ba56c1e1dc1d93c80"), looks := false }, kinds := [], alts := [], laidByText := true, laidKinds := [.data, .data, .data, .data, .listed, .data, .pinned], laidTests := true, laidLooks := .later }
def StatsAddCardSaid : Prop := Claim7.holds Tryd.pinned (.plain (OpenSpec.ofChange statsAddSpec)) statsAddCard

/-- THE TIED CARD OF 'oculuslaw15.FoldBest'. -/
def foldBestCard : Claim7 := { stood := { row := foldBestRow, standIns := [], harness := (true, "a766dca3dc0ee83263e3661664046ba1af17ea51ceb09c4ba56c1e1dc1d93c80"), looks := false }, kinds := [], alts := [], laidByText := true, laidKinds := [.data, .data, .data, .data, .pinned], laidTests := true, laidLooks := .later }
def FoldBestCardSaid : Prop := Claim7.holds Tryd.pinned (.plain (OpenSpec.ofChange foldBestSpec)) foldBestCard

/-- THE TIED CARD OF 'oculuslaw15.FoldOrder'. -/
def foldOrderCard : Claim7 := { stood := { row := foldOrderRow, standIns := [], harness := (true, "a766dca3dc0ee83263e3661664046ba1af17ea51ceb09c4ba56c1e1dc1d93c80"), looks := false }, kinds := [], alts := [], laidByText := true, laidKinds := [.data, .data, .data, .data, .pinned], laidTests := true, laidLooks := .later }
def FoldOrderCardSaid : Prop := Claim7.holds Tryd.pinned (.plain (OpenSpec.ofChange foldOrderSpec)) foldOrderCard

/-- THE TIED CARD OF 'oculuslaw15.FoldTexts'. -/
def foldTextsCard : Claim7 := { stood := { row := foldTextsRow, standIns := [], harness := (true, "a766dca3dc0ee83263e3661664046ba1af17ea51ceb09c4ba56c1e1dc1d93c80"), looks := false }, kinds := [], alts := [], laidByText := true, laidKinds := [.data, .data, .data, .data, .pinned], laidTests := true, laidLooks := .later }
def FoldTextsCardSaid : Prop := Claim7.holds Tryd.pinned (.plain (OpenSpec.ofChange foldTextsSpec)) foldTextsCard

/-- THE TIED CARD OF 'oculuslaw14.TextPuts'. -/
def textPutsCard : Claim7 := { stood := { row := textPutsRow, standIns := [], harness := (true, "a766dca3dc0ee83263e3661664046ba1af17ea51ceb09c4ba56c1e1dc1d93c80"), looks := false }, kinds := [], alts := [], laidByText := true, laidKinds := [.data, .data, .data, .data, .pinned], laidTests := true, laidLooks := .later }
def TextPutsCardSaid : Prop := Claim7.holds Tryd.pinned (.plain (OpenSpec.ofChange textPutsSpec)) textPutsCard

/-- THE TIED CARD OF 'oculuslaw14.TextFixes'. -/
def textFixesCard : Claim7 := { stood := { row := textFixesRow, standIns := [], harness := (true, "a766dca3dc0ee83263e3661664046ba1af17ea51ceb09c4ba56c1e1dc1d93c80"), looks := false }, kinds := [], alts := [], laidByText := true, laidKinds := [.data, .data, .data, .data, .pinned], laidTests := true, laidLooks := .later }
def TextFixesCardSaid : Prop := Claim7.holds Tryd.pinned (.plain (OpenSpec.ofChange textFixesSpec)) textFixesCard

/-- THE TIED CARD OF 'oculuslaw14.TextTurns'. -/
def textTurnsCard : Claim7 := { stood := { row := textTurnsRow, standIns := [], harness := (true, "a766dca3dc0ee83263e3661664046ba1af17ea51ceb09c4ba56c1e1dc1d93c80"), looks := false }, kinds := [], alts := [], laidByText := true, laidKinds := [.data, .data, .data, .data, .pinned], laidTests := true, laidLooks := .later }
def TextTurnsCardSaid : Prop := Claim7.holds Tryd.pinned (.plain (OpenSpec.ofChange textTurnsSpec)) textTurnsCard

/-- THE TIED CARD OF 'oculuslaw14.TextJoins'. -/
def textJoinsCard : Claim7 := { stood := { row := textJoinsRow, standIns := [], harness := (true, "a766dca3dc0ee83263e3661664046ba1af17ea51ceb09c4ba56c1e1dc1d93c80"), looks := false }, kinds := [], alts := [], laidByText := true, laidKinds := [.data, .data, .data, .data, .pinned], laidTests := true, laidLooks := .later }
def TextJoinsCardSaid : Prop := Claim7.holds Tryd.pinned (.plain (OpenSpec.ofChange textJoinsSpec)) textJoinsCard

/-- THE SECOND FORM's CARD OF 'oculuslaw11.DigitsTells'. -/
def digitsTellsUptoCard : Claim7 := { stood := { row := digitsTellsUptoRow, standIns := [], harness := (true, "a766dca3dc0ee83263e3661664046ba1af17ea51ceb09c4ba56c1e1dc1d93c80"), looks := false }, kinds := [], alts := [], laidByText := true, laidKinds := [.data, .data, .data, .data, .pinned], laidTests := true, laidLooks := .later }
def DigitsTellsUptoCardSaid : Prop := Claim7.holds Tryd.pinned (.plain (OpenSpec.upto digitsTellsSpec)) digitsTellsUptoCard

/-- THE SECOND FORM's CARD OF 'oculuslaw11.DigitsReads'. -/
def digitsReadsUptoCard : Claim7 := { stood := { row := digitsReadsUptoRow, standIns := [], harness := (true, "a766dca3dc0ee83263e3661664046ba1af17ea51ceb09c4ba56c1e1dc1d93c80"), looks := false }, kinds := [], alts := [], laidByText := true, laidKinds := [.data, .data, .data, .data, .pinned], laidTests := true, laidLooks := .later }
def DigitsReadsUptoCardSaid : Prop := Claim7.holds Tryd.pinned (.plain (OpenSpec.upto digitsReadsSpec)) digitsReadsUptoCard

/-- THE SECOND FORM's CARD OF 'oculuslaw11.DigitsNoughts'. -/
def digitsNoughtsUptoCard : Claim7 := { stood := { row := digitsNoughtsUptoRow, standIns := [], harness := (true, "a766dca3dc0ee83263e3661664046ba1af17ea51ceb09c4ba56c1e1dc1d93c80"), looks := false }, kinds := [], alts := [], laidByText := true, laidKinds := [.data, .data, .data, .data, .pinned], laidTests := true, laidLooks := .later }
def DigitsNoughtsUptoCardSaid : Prop := Claim7.holds Tryd.pinned (.plain (OpenSpec.upto digitsNoughtsSpec)) digitsNoughtsUptoCard

/-- THE SECOND FORM's CARD OF 'oculuslaw43.StatsCount'. -/
def statsCountUptoCard : Claim7 := { stood := { row := statsCountUptoRow, standIns := [], harness := (true, "a766dca3dc0ee83263e3661664046ba1af17ea51ceb09c4ba56c1e1dc1d93c80"), looks := false }, kinds := [], alts := [], laidByText := true, laidKinds := [.data, .data, .data, .data, .listed, .data, .pinned], laidTests := true, laidLooks := .later }
def StatsCountUptoCardSaid : Prop := Claim7.holds Tryd.pinned (.plain (OpenSpec.upto statsCountSpec)) statsCountUptoCard

/-- THE SECOND FORM's CARD OF 'oculuslaw43.StatsAdd'. -/
def statsAddUptoCard : Claim7 := { stood := { row := statsAddUptoRow, standIns := [], harness := (true, "a766dca3dc0ee83263e3661664046ba1af17ea51ceb09c4ba56c1e1dc1d93c80"), looks := false }, kinds := [], alts := [], laidByText := true, laidKinds := [.data, .data, .data, .data, .listed, .data, .pinned], laidTests := true, laidLooks := .later }
def StatsAddUptoCardSaid : Prop := Claim7.holds Tryd.pinned (.plain (OpenSpec.upto statsAddSpec)) statsAddUptoCard

/-- THE SECOND FORM's CARD OF 'oculuslaw15.FoldBest'. -/
def foldBestUptoCard : Claim7 := { stood := { row := foldBestUptoRow, standIns := [], harness := (true, "a766dca3dc0ee83263e3661664046ba1af17ea51ceb09c4ba56c1e1dc1d93c80"), looks := false }, kinds := [], alts := [], laidByText := true, laidKinds := [.data, .data, .data, .data, .pinned], laidTests := true, laidLooks := .later }
def FoldBestUptoCardSaid : Prop := Claim7.holds Tryd.pinned (.plain (OpenSpec.upto foldBestSpec)) foldBestUptoCard

/-- THE SECOND FORM's CARD OF 'oculuslaw15.FoldOrder'. -/
def foldOrderUptoCard : Claim7 := { stood := { row := foldOrderUptoRow, standIns := [], harness := (true, "a766dca3dc0ee83263e3661664046ba1af17ea51ceb09c4ba56c1e1dc1d93c80"), looks := false }, kinds := [], alts := [], laidByText := true, laidKinds := [.data, .data, .data, .data, .pinned], laidTests := true, laidLooks := .later }
def FoldOrderUptoCardSaid : Prop := Claim7.holds Tryd.pinned (.plain (OpenSpec.upto foldOrderSpec)) foldOrderUptoCard

/-- THE SECOND FORM's CARD OF 'oculuslaw15.FoldTexts'. -/
def foldTextsUptoCard : Claim7 := { stood := { row := foldTextsUptoRow, standIns := [], harness := (true, "a766dca3dc0ee83263e3661664046ba1af17ea51ceb09c4ba56c1e1dc1d93c80"), looks := false }, kinds := [], alts := [], laidByText := true, laidKinds := [.data, .data, .data, .data, .pinned], laidTests := true, laidLooks := .later }
def FoldTextsUptoCardSaid : Prop := Claim7.holds Tryd.pinned (.plain (OpenSpec.upto foldTextsSpec)) foldTextsUptoCard

/-- THE SECOND FORM's CARD OF 'oculuslaw14.TextPuts'. -/
def textPutsUptoCard : Claim7 := { stood := { row := textPutsUptoRow, standIns := [], harness := (true, "a766dca3dc0ee83263e3661664046ba1af17ea51ceb09c4ba56c1e1dc1d93c80"), looks := false }, kinds := [], alts := [], laidByText := true, laidKinds := [.data, .data, .data, .data, .pinned], laidTests := true, laidLooks := .later }
def TextPutsUptoCardSaid : Prop := Claim7.holds Tryd.pinned (.plain (OpenSpec.upto textPutsSpec)) textPutsUptoCard

/-- THE SECOND FORM's CARD OF 'oculuslaw14.TextFixes'. -/
def textFixesUptoCard : Claim7 := { stood := { row := textFixesUptoRow, standIns := [], harness := (true, "a766dca3dc0ee83263e3661664046ba1af17ea51ceb09c4ba56c1e1dc1d93c80"), looks := false }, kinds := [], alts := [], laidByText := true, laidKinds := [.data, .data, .data, .data, .pinned], laidTests := true, laidLooks := .later }
def TextFixesUptoCardSaid : Prop := Claim7.holds Tryd.pinned (.plain (OpenSpec.upto textFixesSpec)) textFixesUptoCard

/-- THE SECOND FORM's CARD OF 'oculuslaw14.TextTurns'. -/
def textTurnsUptoCard : Claim7 := { stood := { row := textTurnsUptoRow, standIns := [], harness := (true, "a766dca3dc0ee83263e3661664046ba1af17ea51ceb09c4ba56c1e1dc1d93c80"), looks := false }, kinds := [], alts := [], laidByText := true, laidKinds := [.data, .data, .data, .data, .pinned], laidTests := true, laidLooks := .later }
def TextTurnsUptoCardSaid : Prop := Claim7.holds Tryd.pinned (.plain (OpenSpec.upto textTurnsSpec)) textTurnsUptoCard

/-- THE SECOND FORM's CARD OF 'oculuslaw14.TextJoins'. -/
def textJoinsUptoCard : Claim7 := { stood := { row := textJoinsUptoRow, standIns := [], harness := (true, "a766dca3dc0ee83263e3661664046ba1af17ea51ceb09c4ba56c1e1dc1d93c80"), looks := false }, kinds := [], alts := [], laidByText := true, laidKinds := [.data, .data, .data, .data, .pinned], laidTests := true, laidLooks := .later }
def TextJoinsUptoCardSaid : Prop := Claim7.holds Tryd.pinned (.plain (OpenSpec.upto textJoinsSpec)) textJoinsUptoCard
end Rows
end Go.Proofs.YtcfhllbobapaiaaDoor
