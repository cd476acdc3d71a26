/-
  DERIVED. GIVEN WITH THE SEED: THE CARDS: each row of YtifckjhggamefaaDoorRows.lean that lists a variable, with what it lists TIED to the program's text (the seventh form; the later family's looks); each row that meets fmt, with fmt's text TOLD by the authors' own Lean function (tested against real Go, not proved from fmt's source: count such statements apart). THE CARD IS WHAT COUNTS. Prove the row's statement (the work); the ties are given (YtifckjhggamefaaDoorTie.lean); close each card by the builder's one call (the guide's Derived/Test/ToyasCard.lean, 'card_holds'). Laid BY PROGRAM, IN A SANDBOX (cutbox-door.mjs). By AI agents, Wed Nov 11 2026. No macro, syntax, notation, axiom, sorry.
-/
import Derived.Test.YtifckjhggamefaaDoorRows
import GoSem.ClaimSeven
namespace Go.Proofs.YtifckjhggamefaaDoor
namespace Rows

/-- THE TIED CARD OF 'treenaillaw10.BlockApart'. -/
def blockApartCard : Claim7 := { stood := { row := blockApartRow, standIns := [], harness := (true, "9d4823b12511e07216f998c591c04d5df61a1a0ba1a45117e2945e03e0676f10"), looks := false }, kinds := [], alts := [], laidByText := true, laidKinds := [.widerDeep, .data], laidTests := true, laidLooks := .later }
def BlockApartCardSaid : Prop := Claim7.holds Tryd.pinned (.plain (OpenSpec.ofChange blockApartSpec)) blockApartCard

/-- THE TIED CARD OF 'treenaillaw10.BlockGrows'. -/
def blockGrowsCard : Claim7 := { stood := { row := blockGrowsRow, standIns := [], harness := (true, "9d4823b12511e07216f998c591c04d5df61a1a0ba1a45117e2945e03e0676f10"), looks := false }, kinds := [], alts := [], laidByText := true, laidKinds := [.widerDeep, .data], laidTests := true, laidLooks := .later }
def BlockGrowsCardSaid : Prop := Claim7.holds Tryd.pinned (.plain (OpenSpec.ofChange blockGrowsSpec)) blockGrowsCard

/-- THE SECOND FORM's CARD OF 'treenaillaw10.BlockApart'. -/
def blockApartUptoCard : Claim7 := { stood := { row := blockApartUptoRow, standIns := [], harness := (true, "9d4823b12511e07216f998c591c04d5df61a1a0ba1a45117e2945e03e0676f10"), looks := false }, kinds := [], alts := [], laidByText := true, laidKinds := [.widerDeep, .data], laidTests := true, laidLooks := .later }
def BlockApartUptoCardSaid : Prop := Claim7.holds Tryd.pinned (.plain (OpenSpec.upto blockApartSpec)) blockApartUptoCard

/-- THE SECOND FORM's CARD OF 'treenaillaw10.BlockGrows'. -/
def blockGrowsUptoCard : Claim7 := { stood := { row := blockGrowsUptoRow, standIns := [], harness := (true, "9d4823b12511e07216f998c591c04d5df61a1a0ba1a45117e2945e03e0676f10"), looks := false }, kinds := [], alts := [], laidByText := true, laidKinds := [.widerDeep, .data], laidTests := true, laidLooks := .later }
def BlockGrowsUptoCardSaid : Prop := Claim7.holds Tryd.pinned (.plain (OpenSpec.upto blockGrowsSpec)) blockGrowsUptoCard
end Rows
end Go.Proofs.YtifckjhggamefaaDoor
