/-
  DERIVED. GIVEN WITH THE SEED: THE CARDS: each row of YtifckjhggamefaaGreatDoorRows.lean that lists a variable, with what it lists TIED to the program's text (the seventh form; the later family's looks); each row that meets fmt, with fmt's text TOLD by the authors' own Lean function (tested against real Go, not proved from fmt's source: count such statements apart). THE CARD IS WHAT COUNTS. Prove the row's statement (the work); the ties are given (YtifckjhggamefaaGreatDoorTie.lean); close each card by the builder's one call (the guide's Derived/Test/ToyasCard.lean, 'card_holds'). Laid BY PROGRAM, IN A SANDBOX (cutbox-door.mjs). By AI agents, Wed Nov 11 2026. No macro, syntax, notation, axiom, sorry.
-/
import Derived.Test.YtifckjhggamefaaGreatDoorRows
import GoSem.ClaimSeven
namespace Go.Proofs.YtifckjhggamefaaGreatDoor
namespace Rows

/-- THE TIED CARD OF 'treenaillaw11.FoldFolds'. -/
def foldFoldsCard : Claim7 := { stood := { row := foldFoldsRow, standIns := [], harness := (true, "9d75f9c0ebd5a2f332765d340f49f917db3049bf4453aebe46905d788bb2aee2"), looks := false }, kinds := [], alts := [], laidByText := true, laidKinds := [.widerDeep, .data], laidTests := true, laidLooks := .later }
def FoldFoldsCardSaid : Prop := Claim7.holds Tryz.pinned (.plain (OpenSpec.ofChange foldFoldsSpec)) foldFoldsCard

/-- THE TIED CARD OF 'treenaillaw11.FoldWhole'. -/
def foldWholeCard : Claim7 := { stood := { row := foldWholeRow, standIns := [], harness := (true, "9d75f9c0ebd5a2f332765d340f49f917db3049bf4453aebe46905d788bb2aee2"), looks := false }, kinds := [], alts := [], laidByText := true, laidKinds := [.widerDeep, .data], laidTests := true, laidLooks := .later }
def FoldWholeCardSaid : Prop := Claim7.holds Tryz.pinned (.plain (OpenSpec.ofChange foldWholeSpec)) foldWholeCard

/-- THE TIED CARD OF 'treenaillaw11.FoldAll'. -/
def foldAllCard : Claim7 := { stood := { row := foldAllRow, standIns := [], harness := (true, "9d75f9c0ebd5a2f332765d340f49f917db3049bf4453aebe46905d788bb2aee2"), looks := false }, kinds := [], alts := [], laidByText := true, laidKinds := [.widerDeep, .data], laidTests := true, laidLooks := .later }
def FoldAllCardSaid : Prop := Claim7.holds Tryz.pinned (.plain (OpenSpec.ofChange foldAllSpec)) foldAllCard

/-- THE TIED CARD OF 'treenaillaw11.FoldLess'. -/
def foldLessCard : Claim7 := { stood := { row := foldLessRow, standIns := [], harness := (true, "9d75f9c0ebd5a2f332765d340f49f917db3049bf4453aebe46905d788bb2aee2"), looks := false }, kinds := [], alts := [], laidByText := true, laidKinds := [.widerDeep, .data], laidTests := true, laidLooks := .later }
def FoldLessCardSaid : Prop := Claim7.holds Tryz.pinned (.plain (OpenSpec.ofChange foldLessSpec)) foldLessCard

/-- THE SECOND FORM's CARD OF 'treenaillaw11.FoldFolds'. -/
def foldFoldsUptoCard : Claim7 := { stood := { row := foldFoldsUptoRow, standIns := [], harness := (true, "9d75f9c0ebd5a2f332765d340f49f917db3049bf4453aebe46905d788bb2aee2"), looks := false }, kinds := [], alts := [], laidByText := true, laidKinds := [.widerDeep, .data], laidTests := true, laidLooks := .later }
def FoldFoldsUptoCardSaid : Prop := Claim7.holds Tryz.pinned (.plain (OpenSpec.upto foldFoldsSpec)) foldFoldsUptoCard

/-- THE SECOND FORM's CARD OF 'treenaillaw11.FoldWhole'. -/
def foldWholeUptoCard : Claim7 := { stood := { row := foldWholeUptoRow, standIns := [], harness := (true, "9d75f9c0ebd5a2f332765d340f49f917db3049bf4453aebe46905d788bb2aee2"), looks := false }, kinds := [], alts := [], laidByText := true, laidKinds := [.widerDeep, .data], laidTests := true, laidLooks := .later }
def FoldWholeUptoCardSaid : Prop := Claim7.holds Tryz.pinned (.plain (OpenSpec.upto foldWholeSpec)) foldWholeUptoCard

/-- THE SECOND FORM's CARD OF 'treenaillaw11.FoldAll'. -/
def foldAllUptoCard : Claim7 := { stood := { row := foldAllUptoRow, standIns := [], harness := (true, "9d75f9c0ebd5a2f332765d340f49f917db3049bf4453aebe46905d788bb2aee2"), looks := false }, kinds := [], alts := [], laidByText := true, laidKinds := [.widerDeep, .data], laidTests := true, laidLooks := .later }
def FoldAllUptoCardSaid : Prop := Claim7.holds Tryz.pinned (.plain (OpenSpec.upto foldAllSpec)) foldAllUptoCard

/-- THE SECOND FORM's CARD OF 'treenaillaw11.FoldLess'. -/
def foldLessUptoCard : Claim7 := { stood := { row := foldLessUptoRow, standIns := [], harness := (true, "9d75f9c0ebd5a2f332765d340f49f917db3049bf4453aebe46905d788bb2aee2"), looks := false }, kinds := [], alts := [], laidByText := true, laidKinds := [.widerDeep, .data], laidTests := true, laidLooks := .later }
def FoldLessUptoCardSaid : Prop := Claim7.holds Tryz.pinned (.plain (OpenSpec.upto foldLessSpec)) foldLessUptoCard
end Rows
end Go.Proofs.YtifckjhggamefaaGreatDoor
