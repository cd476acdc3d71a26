/-
  NARROWER THAN 'FOR EVERY INPUT', by the rows' own cells (each row's printed sentence says how): FoldFolds: loops, laid · FoldWhole: loops, laid · FoldAll: loops, laid · FoldLess: loops, laid.
  DERIVED. THE GIVEN ROWS OF THIS SEAT. 4 by the template 'for every input the law returns true; each argument reads behind the call as it read before'; 0 by the template 'total and deterministic' (their statements: YtifckjhggamefaaGreatDoorTotals.lean).
  GIVEN WITH THE SEED: the statements are not yours to turn. If you find one false, say at which input.
  Laid BY PROGRAM, IN A SANDBOX (cutbox-rows.mjs): the forced cells as the released guide's own fill.sh prints them over the translation 9ce90f1b00fdab87… (all of the seat's roots in one cut). By AI agents, Wed Nov 11 2026. No macro, syntax, notation, axiom, sorry.
-/
import Derived.Test.YtifckjhggamefaaGreatDoorChecked
import GoSem.Claim
import GoSem.ClaimJoined
import GoSem.ClaimMapViews
import Derived.JoinedTies
import Derived.KernelRfl
namespace Go.Proofs.YtifckjhggamefaaGreatDoor
/- THE CELL 'sum', in the pinned program and in every row, IS THE sha256 OF THE DUMP (.gsa) THAT YtifckjhggamefaaGreatDoorProg.lean LOADS. Nothing in Lean hashes anything: it is a label: what it is worth is what the hold of that sum in a sandbox is worth. -/
noncomputable def Tryz.pinned : Pinned := { name := "ytifckjhggamefaagreatdoor", sum := "9ce90f1b00fdab87f2cf936506426ded5b9e0486d003d0a3540ba2304d0b4dea", checked := Tryz.checked }
namespace Rows
def none {H : Type} : Left H := { results := [], args := [] }

/- WHAT THE LISTED PACKAGE-LEVEL VARIABLES READ AS WHEN THE CALL BEGINS. Each datum BY PROGRAM (the guide's laid-datum.mjs) off the statement by which the dump's own 'gosem.cut.vars' lays the variable. In a bare row this is a premise. The card (YtifckjhggamefaaGreatDoorCards.lean) ties it to the program's text. -/
def laid_treenail_term_words {H : Type} : DataW H := .agg [.agg [.lit (.string []), .lit (.int .i64 0), .lit (.int .i64 0), .lit (.int .i64 0)], .agg [.lit (.string []), .lit (.int .i64 0), .lit (.int .i64 0), .lit (.int .i64 0)], .agg [.lit (.string []), .lit (.int .i64 0), .lit (.int .i64 0), .lit (.int .i64 0)], .agg [.lit (.string [110, 101, 103]), .lit (.int .i64 1), .lit (.int .i64 1), .lit (.int .i64 1)], .agg [.lit (.string [110, 111, 116]), .lit (.int .i64 1), .lit (.int .i64 2), .lit (.int .i64 2)], .agg [.lit (.string [97, 100, 100]), .lit (.int .i64 2), .lit (.int .i64 1), .lit (.int .i64 1)], .agg [.lit (.string [115, 117, 98]), .lit (.int .i64 2), .lit (.int .i64 1), .lit (.int .i64 1)], .agg [.lit (.string [109, 117, 108]), .lit (.int .i64 2), .lit (.int .i64 1), .lit (.int .i64 1)], .agg [.lit (.string [100, 105, 118]), .lit (.int .i64 2), .lit (.int .i64 1), .lit (.int .i64 1)], .agg [.lit (.string [109, 111, 100]), .lit (.int .i64 2), .lit (.int .i64 1), .lit (.int .i64 1)], .agg [.lit (.string [101, 113]), .lit (.int .i64 2), .lit (.int .i64 1), .lit (.int .i64 2)], .agg [.lit (.string [108, 116]), .lit (.int .i64 2), .lit (.int .i64 1), .lit (.int .i64 2)], .agg [.lit (.string [108, 101]), .lit (.int .i64 2), .lit (.int .i64 1), .lit (.int .i64 2)], .agg [.lit (.string [97, 110, 100]), .lit (.int .i64 2), .lit (.int .i64 2), .lit (.int .i64 2)], .agg [.lit (.string [111, 114]), .lit (.int .i64 2), .lit (.int .i64 2), .lit (.int .i64 2)]]
def laid_treenail_block_names {H : Type} : DataW H := .agg [.lit (.string []), .lit (.string []), .lit (.string []), .lit (.string [115, 101, 113]), .lit (.string [112, 97, 114]), .lit (.string [97, 108, 116]), .lit (.string [112, 105, 99, 107]), .lit (.string [108, 111, 111, 112]), .lit (.string []), .lit (.string [119, 101, 98]), .lit (.string [])]

/-- 'treenaillaw11.FoldFolds': WHATEVER THE INPUT: true; the input reads as it did. -/
def foldFoldsSpec : ChangeSpec := { name := "foldFolds", fn := fun _ => fun
  | [d] => { results := [.lit (.bool true)], args := [d] }
  | _ => none }
def foldFoldsRow : OpenClaim := { program := "ytifckjhggamefaagreatdoor", sum := "9ce90f1b00fdab87f2cf936506426ded5b9e0486d003d0a3540ba2304d0b4dea", func := "treenail/treenaillaw11.FoldFolds", spec := "foldFolds", unfollowed := true, recurses := true, named := ["treenail/term.words", "treenail/block.names"], loops := true, apart := false, laid := [("treenail/term.words", laid_treenail_term_words), ("treenail/block.names", laid_treenail_block_names)] }
def FoldFoldsSaid : Prop := foldFoldsRow.holds Tryz.pinned (OpenSpec.ofChange foldFoldsSpec)

/-- ITS FALSE NEIGHBOUR: 'it returns false'. Refute it at one input. -/
def foldFoldsWrong : ChangeSpec := { name := "foldFolds", fn := fun _ => fun
  | [d] => { results := [.lit (.bool false)], args := [d] }
  | _ => none }
def FoldFoldsWrongFalsely : Prop := foldFoldsRow.holds Tryz.pinned (OpenSpec.ofChange foldFoldsWrong)

/-- 'treenaillaw11.FoldWhole': WHATEVER THE INPUT: true; the input reads as it did. -/
def foldWholeSpec : ChangeSpec := { name := "foldWhole", fn := fun _ => fun
  | [d] => { results := [.lit (.bool true)], args := [d] }
  | _ => none }
def foldWholeRow : OpenClaim := { program := "ytifckjhggamefaagreatdoor", sum := "9ce90f1b00fdab87f2cf936506426ded5b9e0486d003d0a3540ba2304d0b4dea", func := "treenail/treenaillaw11.FoldWhole", spec := "foldWhole", unfollowed := true, recurses := true, named := ["treenail/term.words", "treenail/block.names"], loops := true, apart := false, laid := [("treenail/term.words", laid_treenail_term_words), ("treenail/block.names", laid_treenail_block_names)] }
def FoldWholeSaid : Prop := foldWholeRow.holds Tryz.pinned (OpenSpec.ofChange foldWholeSpec)

/-- ITS FALSE NEIGHBOUR: 'it returns false'. Refute it at one input. -/
def foldWholeWrong : ChangeSpec := { name := "foldWhole", fn := fun _ => fun
  | [d] => { results := [.lit (.bool false)], args := [d] }
  | _ => none }
def FoldWholeWrongFalsely : Prop := foldWholeRow.holds Tryz.pinned (OpenSpec.ofChange foldWholeWrong)

/-- 'treenaillaw11.FoldAll': WHATEVER THE INPUT: true; the input reads as it did. -/
def foldAllSpec : ChangeSpec := { name := "foldAll", fn := fun _ => fun
  | [d] => { results := [.lit (.bool true)], args := [d] }
  | _ => none }
def foldAllRow : OpenClaim := { program := "ytifckjhggamefaagreatdoor", sum := "9ce90f1b00fdab87f2cf936506426ded5b9e0486d003d0a3540ba2304d0b4dea", func := "treenail/treenaillaw11.FoldAll", spec := "foldAll", unfollowed := true, recurses := true, named := ["treenail/term.words", "treenail/block.names"], loops := true, apart := false, laid := [("treenail/term.words", laid_treenail_term_words), ("treenail/block.names", laid_treenail_block_names)] }
def FoldAllSaid : Prop := foldAllRow.holds Tryz.pinned (OpenSpec.ofChange foldAllSpec)

/-- ITS FALSE NEIGHBOUR: 'it returns false'. Refute it at one input. -/
def foldAllWrong : ChangeSpec := { name := "foldAll", fn := fun _ => fun
  | [d] => { results := [.lit (.bool false)], args := [d] }
  | _ => none }
def FoldAllWrongFalsely : Prop := foldAllRow.holds Tryz.pinned (OpenSpec.ofChange foldAllWrong)

/-- 'treenaillaw11.FoldLess': WHATEVER THE INPUT: true; the input reads as it did. -/
def foldLessSpec : ChangeSpec := { name := "foldLess", fn := fun _ => fun
  | [d1, d2] => { results := [.lit (.bool true)], args := [d1, d2] }
  | _ => none }
def foldLessRow : OpenClaim := { program := "ytifckjhggamefaagreatdoor", sum := "9ce90f1b00fdab87f2cf936506426ded5b9e0486d003d0a3540ba2304d0b4dea", func := "treenail/treenaillaw11.FoldLess", spec := "foldLess", unfollowed := true, recurses := true, named := ["treenail/term.words", "treenail/block.names"], loops := true, apart := false, laid := [("treenail/term.words", laid_treenail_term_words), ("treenail/block.names", laid_treenail_block_names)] }
def FoldLessSaid : Prop := foldLessRow.holds Tryz.pinned (OpenSpec.ofChange foldLessSpec)

/-- ITS FALSE NEIGHBOUR: 'it returns false'. Refute it at one input. -/
def foldLessWrong : ChangeSpec := { name := "foldLess", fn := fun _ => fun
  | [d1, d2] => { results := [.lit (.bool false)], args := [d1, d2] }
  | _ => none }
def FoldLessWrongFalsely : Prop := foldLessRow.holds Tryz.pinned (OpenSpec.ofChange foldLessWrong)

/- THE SECOND FORM. 'bulk': how many values and letters a reading holds, each counted each time it is reached (what is shared counts as often as it is met; a slice's spare places count too). A statement '..UptoSaid' is the law's where the arguments, and the package variables that the reading takes, are together of bulk at most 1048576: NARROWER than '..Said'. Prove '..Said' where nothing that the law and all that it calls make is longer than what came in: it says more and counts as full. Else prove '..UptoSaid'. A law counts once. -/
mutual
def uptoBulk {H : Type} : DataW H → Nat
  | .lit (.string bytes) => bytes.length + 1
  | .lit _ => 1
  | .nil => 1
  | .ptr d => uptoBulk d + 1
  | .slice elems spare => uptoBulkAll elems + uptoBulkAll spare + 1
  | .agg parts => uptoBulkAll parts + 1
  | .iface _ d => uptoBulk d + 1
  | .map entries => uptoBulkEntries entries + 1
  | .held _ => 1
def uptoBulkAll {H : Type} : List (DataW H) → Nat
  | [] => 0
  | d :: r => uptoBulk d + uptoBulkAll r
def uptoBulkEntries {H : Type} : List (Lit × DataW H) → Nat
  | [] => 0
  | x :: r => uptoBulkEntry x + uptoBulkEntries r
def uptoBulkEntry {H : Type} : Lit × DataW H → Nat
  | (.string bytes, d) => bytes.length + uptoBulk d + 1
  | (_, d) => uptoBulk d + 1
 end
def uptoSmall : (H : Type) → List (DataW H) → Bool := fun _ ds => decide (uptoBulkAll ds ≤ 1048576)
def OpenSpec.upto (s : _root_.Go.ChangeSpec) : _root_.Go.OpenSpec := { _root_.Go.OpenSpec.ofChange s with cond := some uptoSmall }

/-- 'treenaillaw11.FoldFolds', WHERE WHAT IT READS IS OF BULK AT MOST 1048576: true; the input reads as it did. -/
def foldFoldsUptoRow : OpenClaim := { program := "ytifckjhggamefaagreatdoor", sum := "9ce90f1b00fdab87f2cf936506426ded5b9e0486d003d0a3540ba2304d0b4dea", func := "treenail/treenaillaw11.FoldFolds", spec := "foldFolds", unfollowed := true, recurses := true, named := ["treenail/term.words", "treenail/block.names"], loops := true, apart := false, laid := [("treenail/term.words", laid_treenail_term_words), ("treenail/block.names", laid_treenail_block_names)], narrowed := true }
def FoldFoldsUptoSaid : Prop := foldFoldsUptoRow.holds Tryz.pinned (OpenSpec.upto foldFoldsSpec)

/-- 'treenaillaw11.FoldWhole', WHERE WHAT IT READS IS OF BULK AT MOST 1048576: true; the input reads as it did. -/
def foldWholeUptoRow : OpenClaim := { program := "ytifckjhggamefaagreatdoor", sum := "9ce90f1b00fdab87f2cf936506426ded5b9e0486d003d0a3540ba2304d0b4dea", func := "treenail/treenaillaw11.FoldWhole", spec := "foldWhole", unfollowed := true, recurses := true, named := ["treenail/term.words", "treenail/block.names"], loops := true, apart := false, laid := [("treenail/term.words", laid_treenail_term_words), ("treenail/block.names", laid_treenail_block_names)], narrowed := true }
def FoldWholeUptoSaid : Prop := foldWholeUptoRow.holds Tryz.pinned (OpenSpec.upto foldWholeSpec)

/-- 'treenaillaw11.FoldAll', WHERE WHAT IT READS IS OF BULK AT MOST 1048576: true; the input reads as it did. -/
def foldAllUptoRow : OpenClaim := { program := "ytifckjhggamefaagreatdoor", sum := "9ce90f1b00fdab87f2cf936506426ded5b9e0486d003d0a3540ba2304d0b4dea", func := "treenail/treenaillaw11.FoldAll", spec := "foldAll", unfollowed := true, recurses := true, named := ["treenail/term.words", "treenail/block.names"], loops := true, apart := false, laid := [("treenail/term.words", laid_treenail_term_words), ("treenail/block.names", laid_treenail_block_names)], narrowed := true }
def FoldAllUptoSaid : Prop := foldAllUptoRow.holds Tryz.pinned (OpenSpec.upto foldAllSpec)

/-- 'treenaillaw11.FoldLess', WHERE WHAT IT READS IS OF BULK AT MOST 1048576: true; the input reads as it did. -/
def foldLessUptoRow : OpenClaim := { program := "ytifckjhggamefaagreatdoor", sum := "9ce90f1b00fdab87f2cf936506426ded5b9e0486d003d0a3540ba2304d0b4dea", func := "treenail/treenaillaw11.FoldLess", spec := "foldLess", unfollowed := true, recurses := true, named := ["treenail/term.words", "treenail/block.names"], loops := true, apart := false, laid := [("treenail/term.words", laid_treenail_term_words), ("treenail/block.names", laid_treenail_block_names)], narrowed := true }
def FoldLessUptoSaid : Prop := foldLessUptoRow.holds Tryz.pinned (OpenSpec.upto foldLessSpec)

end Rows
end Go.Proofs.YtifckjhggamefaaGreatDoor
