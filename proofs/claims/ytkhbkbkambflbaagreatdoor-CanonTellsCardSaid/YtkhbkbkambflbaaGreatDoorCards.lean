/-
  DERIVED. GIVEN WITH THE SEED: THE CARDS: each row of YtkhbkbkambflbaaGreatDoorRows.lean that lists a variable, with what it lists TIED to the program's text (the seventh form; the later family's looks); each row that meets fmt, with fmt's text TOLD by the authors' own Lean function (tested against real Go, not proved from fmt's source: count such statements apart). THE CARD IS WHAT COUNTS. Prove the row's statement (the work); the ties are given (YtkhbkbkambflbaaGreatDoorTie.lean); close each card by the builder's one call (the guide's Derived/Test/ToyasCard.lean, 'card_holds'). Laid BY PROGRAM, IN A SANDBOX (cutbox-door.mjs). By AI agents, Wed Nov 11 2026. No macro, syntax, notation, axiom, sorry.
-/
import Derived.Test.YtkhbkbkambflbaaGreatDoorRows
import GoSem.ClaimSeven
namespace Go.Proofs.YtkhbkbkambflbaaGreatDoor
namespace Rows

/-- THE TIED CARD OF 'oculuslaw23.ParseTells'. -/
def parseTellsCard : Claim7 := { stood := { row := parseTellsRow, standIns := [], harness := (true, "b193ce7e6797a20116516223b4fe3daa35c7b810da3628f40d08a9d699ae8872"), looks := false }, kinds := [], alts := [], laidByText := true, laidKinds := [.data, .data, .data, .data, .listed, .data, .pinned], laidTests := true, laidLooks := .later }
def ParseTellsCardSaid : Prop := Claim7.holds Tryz.pinned (.plain (OpenSpec.ofChange parseTellsSpec)) parseTellsCard

/-- THE TIED CARD OF 'oculuslaw23.ParseBrackets'. -/
def parseBracketsCard : Claim7 := { stood := { row := parseBracketsRow, standIns := [], harness := (true, "b193ce7e6797a20116516223b4fe3daa35c7b810da3628f40d08a9d699ae8872"), looks := false }, kinds := [], alts := [], laidByText := true, laidKinds := [.data, .data, .data, .data, .listed, .data, .pinned], laidTests := true, laidLooks := .later }
def ParseBracketsCardSaid : Prop := Claim7.holds Tryz.pinned (.plain (OpenSpec.ofChange parseBracketsSpec)) parseBracketsCard

/-- THE TIED CARD OF 'oculuslaw23.ParseRight'. -/
def parseRightCard : Claim7 := { stood := { row := parseRightRow, standIns := [], harness := (true, "b193ce7e6797a20116516223b4fe3daa35c7b810da3628f40d08a9d699ae8872"), looks := false }, kinds := [], alts := [], laidByText := true, laidKinds := [.data, .data, .data, .data, .listed, .data, .pinned], laidTests := true, laidLooks := .later }
def ParseRightCardSaid : Prop := Claim7.holds Tryz.pinned (.plain (OpenSpec.ofChange parseRightSpec)) parseRightCard

/-- THE TIED CARD OF 'oculuslaw24.CanonTells'. -/
def canonTellsCard : Claim7 := { stood := { row := canonTellsRow, standIns := [], harness := (true, "b193ce7e6797a20116516223b4fe3daa35c7b810da3628f40d08a9d699ae8872"), looks := false }, kinds := [], alts := [], laidByText := true, laidKinds := [.data, .data, .data, .data, .listed, .data, .pinned], laidTests := true, laidLooks := .later }
def CanonTellsCardSaid : Prop := Claim7.holds Tryz.pinned (.plain (OpenSpec.ofChange canonTellsSpec)) canonTellsCard

/-- THE TIED CARD OF 'oculuslaw24.CanonBack'. -/
def canonBackCard : Claim7 := { stood := { row := canonBackRow, standIns := [], harness := (true, "b193ce7e6797a20116516223b4fe3daa35c7b810da3628f40d08a9d699ae8872"), looks := false }, kinds := [], alts := [], laidByText := true, laidKinds := [.data, .data, .data, .data, .listed, .data, .pinned], laidTests := true, laidLooks := .later }
def CanonBackCardSaid : Prop := Claim7.holds Tryz.pinned (.plain (OpenSpec.ofChange canonBackSpec)) canonBackCard

/-- THE TIED CARD OF 'oculuslaw24.CanonShort'. -/
def canonShortCard : Claim7 := { stood := { row := canonShortRow, standIns := [], harness := (true, "b193ce7e6797a20116516223b4fe3daa35c7b810da3628f40d08a9d699ae8872"), looks := false }, kinds := [], alts := [], laidByText := true, laidKinds := [.data, .data, .data, .data, .listed, .data, .pinned], laidTests := true, laidLooks := .later }
def CanonShortCardSaid : Prop := Claim7.holds Tryz.pinned (.plain (OpenSpec.ofChange canonShortSpec)) canonShortCard

/-- THE TIED CARD OF 'oculuslaw26.RefsTells'. -/
def refsTellsCard : Claim7 := { stood := { row := refsTellsRow, standIns := [], harness := (true, "b193ce7e6797a20116516223b4fe3daa35c7b810da3628f40d08a9d699ae8872"), looks := false }, kinds := [], alts := [], laidByText := true, laidKinds := [.data, .data, .data, .data, .listed, .data, .pinned], laidTests := true, laidLooks := .later }
def RefsTellsCardSaid : Prop := Claim7.holds Tryz.pinned (.plain (OpenSpec.ofChange refsTellsSpec)) refsTellsCard

/-- THE TIED CARD OF 'oculuslaw26.RefsCells'. -/
def refsCellsCard : Claim7 := { stood := { row := refsCellsRow, standIns := [], harness := (true, "b193ce7e6797a20116516223b4fe3daa35c7b810da3628f40d08a9d699ae8872"), looks := false }, kinds := [], alts := [], laidByText := true, laidKinds := [.data, .data, .data, .data, .listed, .data, .pinned], laidTests := true, laidLooks := .later }
def RefsCellsCardSaid : Prop := Claim7.holds Tryz.pinned (.plain (OpenSpec.ofChange refsCellsSpec)) refsCellsCard

/-- THE SECOND FORM's CARD OF 'oculuslaw23.ParseTells'. -/
def parseTellsUptoCard : Claim7 := { stood := { row := parseTellsUptoRow, standIns := [], harness := (true, "b193ce7e6797a20116516223b4fe3daa35c7b810da3628f40d08a9d699ae8872"), looks := false }, kinds := [], alts := [], laidByText := true, laidKinds := [.data, .data, .data, .data, .listed, .data, .pinned], laidTests := true, laidLooks := .later }
def ParseTellsUptoCardSaid : Prop := Claim7.holds Tryz.pinned (.plain (OpenSpec.upto parseTellsSpec)) parseTellsUptoCard

/-- THE SECOND FORM's CARD OF 'oculuslaw23.ParseBrackets'. -/
def parseBracketsUptoCard : Claim7 := { stood := { row := parseBracketsUptoRow, standIns := [], harness := (true, "b193ce7e6797a20116516223b4fe3daa35c7b810da3628f40d08a9d699ae8872"), looks := false }, kinds := [], alts := [], laidByText := true, laidKinds := [.data, .data, .data, .data, .listed, .data, .pinned], laidTests := true, laidLooks := .later }
def ParseBracketsUptoCardSaid : Prop := Claim7.holds Tryz.pinned (.plain (OpenSpec.upto parseBracketsSpec)) parseBracketsUptoCard

/-- THE SECOND FORM's CARD OF 'oculuslaw23.ParseRight'. -/
def parseRightUptoCard : Claim7 := { stood := { row := parseRightUptoRow, standIns := [], harness := (true, "b193ce7e6797a20116516223b4fe3daa35c7b810da3628f40d08a9d699ae8872"), looks := false }, kinds := [], alts := [], laidByText := true, laidKinds := [.data, .data, .data, .data, .listed, .data, .pinned], laidTests := true, laidLooks := .later }
def ParseRightUptoCardSaid : Prop := Claim7.holds Tryz.pinned (.plain (OpenSpec.upto parseRightSpec)) parseRightUptoCard

/-- THE SECOND FORM's CARD OF 'oculuslaw24.CanonTells'. -/
def canonTellsUptoCard : Claim7 := { stood := { row := canonTellsUptoRow, standIns := [], harness := (true, "b193ce7e6797a20116516223b4fe3daa35c7b810da3628f40d08a9d699ae8872"), looks := false }, kinds := [], alts := [], laidByText := true, laidKinds := [.data, .data, .data, .data, .listed, .data, .pinned], laidTests := true, laidLooks := .later }
def CanonTellsUptoCardSaid : Prop := Claim7.holds Tryz.pinned (.plain (OpenSpec.upto canonTellsSpec)) canonTellsUptoCard

/-- THE SECOND FORM's CARD OF 'oculuslaw24.CanonBack'. -/
def canonBackUptoCard : Claim7 := { stood := { row := canonBackUptoRow, standIns := [], harness := (true, "b193ce7e6797a20116516223b4fe3daa35c7b810da3628f40d08a9d699ae8872"), looks := false }, kinds := [], alts := [], laidByText := true, laidKinds := [.data, .data, .data, .data, .listed, .data, .pinned], laidTests := true, laidLooks := .later }
def CanonBackUptoCardSaid : Prop := Claim7.holds Tryz.pinned (.plain (OpenSpec.upto canonBackSpec)) canonBackUptoCard

/-- THE SECOND FORM's CARD OF 'oculuslaw24.CanonShort'. -/
def canonShortUptoCard : Claim7 := { stood := { row := canonShortUptoRow, standIns := [], harness := (true, "b193ce7e6797a20116516223b4fe3daa35c7b810da3628f40d08a9d699ae8872"), looks := false }, kinds := [], alts := [], laidByText := true, laidKinds := [.data, .data, .data, .data, .listed, .data, .pinned], laidTests := true, laidLooks := .later }
def CanonShortUptoCardSaid : Prop := Claim7.holds Tryz.pinned (.plain (OpenSpec.upto canonShortSpec)) canonShortUptoCard

/-- THE SECOND FORM's CARD OF 'oculuslaw26.RefsTells'. -/
def refsTellsUptoCard : Claim7 := { stood := { row := refsTellsUptoRow, standIns := [], harness := (true, "b193ce7e6797a20116516223b4fe3daa35c7b810da3628f40d08a9d699ae8872"), looks := false }, kinds := [], alts := [], laidByText := true, laidKinds := [.data, .data, .data, .data, .listed, .data, .pinned], laidTests := true, laidLooks := .later }
def RefsTellsUptoCardSaid : Prop := Claim7.holds Tryz.pinned (.plain (OpenSpec.upto refsTellsSpec)) refsTellsUptoCard

/-- THE SECOND FORM's CARD OF 'oculuslaw26.RefsCells'. -/
def refsCellsUptoCard : Claim7 := { stood := { row := refsCellsUptoRow, standIns := [], harness := (true, "b193ce7e6797a20116516223b4fe3daa35c7b810da3628f40d08a9d699ae8872"), looks := false }, kinds := [], alts := [], laidByText := true, laidKinds := [.data, .data, .data, .data, .listed, .data, .pinned], laidTests := true, laidLooks := .later }
def RefsCellsUptoCardSaid : Prop := Claim7.holds Tryz.pinned (.plain (OpenSpec.upto refsCellsSpec)) refsCellsUptoCard
end Rows
end Go.Proofs.YtkhbkbkambflbaaGreatDoor
