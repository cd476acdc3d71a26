/-
  DERIVED. GIVEN WITH THE SEED: THE CARDS: each row of YtgppmcpbphgnnaaDoorRows.lean that lists a variable, with what it lists TIED to the program's text (the seventh form; the later family's looks); each row that meets fmt, with fmt's text TOLD by the authors' own Lean function (tested against real Go, not proved from fmt's source: count such statements apart). THE CARD IS WHAT COUNTS. Prove the row's statement (the work); the ties are given (YtgppmcpbphgnnaaDoorTie.lean); close each card by the builder's one call (the guide's Derived/Test/ToyasCard.lean, 'card_holds'). Laid BY PROGRAM, IN A SANDBOX (cutbox-door.mjs). By AI agents, Wed Nov 11 2026. No macro, syntax, notation, axiom, sorry.
-/
import Derived.Test.YtgppmcpbphgnnaaDoorRows
import GoSem.ClaimSeven
namespace Go.Proofs.YtgppmcpbphgnnaaDoor
namespace Rows

/-- THE TIED CARD OF 'treenaillaw10.BlockTexts'. -/
def blockTextsCard : Claim7 := { stood := { row := blockTextsRow, standIns := [], harness := (true, "0b167b655fafd375e1dbaf38ef57f1b0abd5993057caeb486b83f4900a390444"), looks := false }, kinds := [], alts := [], laidByText := true, laidKinds := [.data], laidTests := true, laidLooks := .later }
def BlockTextsCardSaid : Prop := Claim7.holds Tryd.pinned (.plain (OpenSpec.ofChange blockTextsSpec)) blockTextsCard

/-- THE TIED CARD OF 'treenaillaw10.BlockSame'. -/
def blockSameCard : Claim7 := { stood := { row := blockSameRow, standIns := [], harness := (true, "0b167b655fafd375e1dbaf38ef57f1b0abd5993057caeb486b83f4900a390444"), looks := false }, kinds := [], alts := [], laidByText := true, laidKinds := [.data], laidTests := true, laidLooks := .later }
def BlockSameCardSaid : Prop := Claim7.holds Tryd.pinned (.plain (OpenSpec.ofChange blockSameSpec)) blockSameCard

/-- THE TIED CARD OF 'treenaillaw03.TermChecks'. -/
def termChecksCard : Claim7 := { stood := { row := termChecksRow, standIns := [], harness := (true, "0b167b655fafd375e1dbaf38ef57f1b0abd5993057caeb486b83f4900a390444"), looks := false }, kinds := [], alts := [], laidByText := true, laidKinds := [.widerDeep], laidTests := true, laidLooks := .later }
def TermChecksCardSaid : Prop := Claim7.holds Tryd.pinned (.plain (OpenSpec.ofChange termChecksSpec)) termChecksCard

/-- THE TIED CARD OF 'treenaillaw03.TermTexts'. -/
def termTextsCard : Claim7 := { stood := { row := termTextsRow, standIns := [], harness := (true, "0b167b655fafd375e1dbaf38ef57f1b0abd5993057caeb486b83f4900a390444"), looks := false }, kinds := [], alts := [], laidByText := true, laidKinds := [.widerDeep], laidTests := true, laidLooks := .later }
def TermTextsCardSaid : Prop := Claim7.holds Tryd.pinned (.plain (OpenSpec.ofChange termTextsSpec)) termTextsCard

/-- THE TIED CARD OF 'treenaillaw03.TermParses'. -/
def termParsesCard : Claim7 := { stood := { row := termParsesRow, standIns := [], harness := (true, "0b167b655fafd375e1dbaf38ef57f1b0abd5993057caeb486b83f4900a390444"), looks := false }, kinds := [], alts := [], laidByText := true, laidKinds := [.widerDeep], laidTests := true, laidLooks := .later }
def TermParsesCardSaid : Prop := Claim7.holds Tryd.pinned (.plain (OpenSpec.ofChange termParsesSpec)) termParsesCard

/-- THE TIED CARD OF 'treenaillaw03.TermBack'. -/
def termBackCard : Claim7 := { stood := { row := termBackRow, standIns := [], harness := (true, "0b167b655fafd375e1dbaf38ef57f1b0abd5993057caeb486b83f4900a390444"), looks := false }, kinds := [], alts := [], laidByText := true, laidKinds := [.widerDeep], laidTests := true, laidLooks := .later }
def TermBackCardSaid : Prop := Claim7.holds Tryd.pinned (.plain (OpenSpec.ofChange termBackSpec)) termBackCard

/-- THE TIED CARD OF 'treenaillaw03.TermLooks'. -/
def termLooksCard : Claim7 := { stood := { row := termLooksRow, standIns := [], harness := (true, "0b167b655fafd375e1dbaf38ef57f1b0abd5993057caeb486b83f4900a390444"), looks := false }, kinds := [], alts := [], laidByText := true, laidKinds := [.widerDeep], laidTests := true, laidLooks := .later }
def TermLooksCardSaid : Prop := Claim7.holds Tryd.pinned (.plain (OpenSpec.ofChange termLooksSpec)) termLooksCard

/-- THE SECOND FORM's CARD OF 'treenaillaw10.BlockTexts'. -/
def blockTextsUptoCard : Claim7 := { stood := { row := blockTextsUptoRow, standIns := [], harness := (true, "0b167b655fafd375e1dbaf38ef57f1b0abd5993057caeb486b83f4900a390444"), looks := false }, kinds := [], alts := [], laidByText := true, laidKinds := [.data], laidTests := true, laidLooks := .later }
def BlockTextsUptoCardSaid : Prop := Claim7.holds Tryd.pinned (.plain (OpenSpec.upto blockTextsSpec)) blockTextsUptoCard

/-- THE SECOND FORM's CARD OF 'treenaillaw10.BlockSame'. -/
def blockSameUptoCard : Claim7 := { stood := { row := blockSameUptoRow, standIns := [], harness := (true, "0b167b655fafd375e1dbaf38ef57f1b0abd5993057caeb486b83f4900a390444"), looks := false }, kinds := [], alts := [], laidByText := true, laidKinds := [.data], laidTests := true, laidLooks := .later }
def BlockSameUptoCardSaid : Prop := Claim7.holds Tryd.pinned (.plain (OpenSpec.upto blockSameSpec)) blockSameUptoCard

/-- THE SECOND FORM's CARD OF 'treenaillaw03.TermChecks'. -/
def termChecksUptoCard : Claim7 := { stood := { row := termChecksUptoRow, standIns := [], harness := (true, "0b167b655fafd375e1dbaf38ef57f1b0abd5993057caeb486b83f4900a390444"), looks := false }, kinds := [], alts := [], laidByText := true, laidKinds := [.widerDeep], laidTests := true, laidLooks := .later }
def TermChecksUptoCardSaid : Prop := Claim7.holds Tryd.pinned (.plain (OpenSpec.upto termChecksSpec)) termChecksUptoCard

/-- THE SECOND FORM's CARD OF 'treenaillaw03.TermTexts'. -/
def termTextsUptoCard : Claim7 := { stood := { row := termTextsUptoRow, standIns := [], harness := (true, "0b167b655fafd375e1dbaf38ef57f1b0abd5993057caeb486b83f4900a390444"), looks := false }, kinds := [], alts := [], laidByText := true, laidKinds := [.widerDeep], laidTests := true, laidLooks := .later }
def TermTextsUptoCardSaid : Prop := Claim7.holds Tryd.pinned (.plain (OpenSpec.upto termTextsSpec)) termTextsUptoCard

/-- THE SECOND FORM's CARD OF 'treenaillaw03.TermParses'. -/
def termParsesUptoCard : Claim7 := { stood := { row := termParsesUptoRow, standIns := [], harness := (true, "0b167b655fafd375e1dbaf38ef57f1b0abd5993057caeb486b83f4900a390444"), looks := false }, kinds := [], alts := [], laidByText := true, laidKinds := [.widerDeep], laidTests := true, laidLooks := .later }
def TermParsesUptoCardSaid : Prop := Claim7.holds Tryd.pinned (.plain (OpenSpec.upto termParsesSpec)) termParsesUptoCard

/-- THE SECOND FORM's CARD OF 'treenaillaw03.TermBack'. -/
def termBackUptoCard : Claim7 := { stood := { row := termBackUptoRow, standIns := [], harness := (true, "0b167b655fafd375e1dbaf38ef57f1b0abd5993057caeb486b83f4900a390444"), looks := false }, kinds := [], alts := [], laidByText := true, laidKinds := [.widerDeep], laidTests := true, laidLooks := .later }
def TermBackUptoCardSaid : Prop := Claim7.holds Tryd.pinned (.plain (OpenSpec.upto termBackSpec)) termBackUptoCard

/-- THE SECOND FORM's CARD OF 'treenaillaw03.TermLooks'. -/
def termLooksUptoCard : Claim7 := { stood := { row := termLooksUptoRow, standIns := [], harness := (true, "0b167b655fafd375e1dbaf38ef57f1b0abd5993057caeb486b83f4900a390444"), looks := false }, kinds := [], alts := [], laidByText := true, laidKinds := [.widerDeep], laidTests := true, laidLooks := .later }
def TermLooksUptoCardSaid : Prop := Claim7.holds Tryd.pinned (.plain (OpenSpec.upto termLooksSpec)) termLooksUptoCard
end Rows
end Go.Proofs.YtgppmcpbphgnnaaDoor
