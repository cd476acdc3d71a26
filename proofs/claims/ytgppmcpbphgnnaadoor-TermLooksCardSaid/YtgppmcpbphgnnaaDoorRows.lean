/-
  NARROWER THAN 'FOR EVERY INPUT', by the rows' own cells (each row's printed sentence says how): BlockTexts: loops, laid · BlockSame: loops, laid · TermChecks: loops, laid · TermTexts: loops, laid · TermParses: laid · TermBack: loops, laid · TermLooks: loops, laid.
  DERIVED. THE GIVEN ROWS OF THIS SEAT. 7 by the template 'for every input the law returns true; each argument reads behind the call as it read before'; 0 by the template 'total and deterministic' (their statements: YtgppmcpbphgnnaaDoorTotals.lean).
  GIVEN WITH THE SEED: the statements are not yours to turn. If you find one false, say at which input.
  Laid BY PROGRAM, IN A SANDBOX (cutbox-rows.mjs): the forced cells as the released guide's own fill.sh prints them over the translation b8b90a0d7c2bdfa9… (all of the seat's roots in one cut). By AI agents, Wed Nov 11 2026. No macro, syntax, notation, axiom, sorry.
-/
import Derived.Test.YtgppmcpbphgnnaaDoorChecked
import GoSem.Claim
import GoSem.ClaimJoined
import GoSem.ClaimMapViews
import Derived.JoinedTies
import Derived.KernelRfl
namespace Go.Proofs.YtgppmcpbphgnnaaDoor
/- THE CELL 'sum', in the pinned program and in every row, IS THE sha256 OF THE DUMP (.gsa) THAT YtgppmcpbphgnnaaDoorProg.lean LOADS. Nothing in Lean hashes anything: it is a label: what it is worth is what the hold of that sum in a sandbox is worth. -/
noncomputable def Tryd.pinned : Pinned := { name := "ytgppmcpbphgnnaadoor", sum := "b8b90a0d7c2bdfa938af5322ec6ddb516c87cfd06a0a203f1675b661aa08cd41", checked := Tryd.checked }
namespace Rows
def none {H : Type} : Left H := { results := [], args := [] }

/- WHAT THE LISTED PACKAGE-LEVEL VARIABLES READ AS WHEN THE CALL BEGINS. Each datum BY PROGRAM (the guide's laid-datum.mjs) off the statement by which the dump's own 'gosem.cut.vars' lays the variable. In a bare row this is a premise. The card (YtgppmcpbphgnnaaDoorCards.lean) ties it to the program's text. -/
def laid_treenail_block_names {H : Type} : DataW H := .agg [.lit (.string []), .lit (.string []), .lit (.string []), .lit (.string [115, 101, 113]), .lit (.string [112, 97, 114]), .lit (.string [97, 108, 116]), .lit (.string [112, 105, 99, 107]), .lit (.string [108, 111, 111, 112]), .lit (.string []), .lit (.string [119, 101, 98]), .lit (.string [])]
def laid_treenail_term_words {H : Type} : DataW H := .agg [.agg [.lit (.string []), .lit (.int .i64 0), .lit (.int .i64 0), .lit (.int .i64 0)], .agg [.lit (.string []), .lit (.int .i64 0), .lit (.int .i64 0), .lit (.int .i64 0)], .agg [.lit (.string []), .lit (.int .i64 0), .lit (.int .i64 0), .lit (.int .i64 0)], .agg [.lit (.string [110, 101, 103]), .lit (.int .i64 1), .lit (.int .i64 1), .lit (.int .i64 1)], .agg [.lit (.string [110, 111, 116]), .lit (.int .i64 1), .lit (.int .i64 2), .lit (.int .i64 2)], .agg [.lit (.string [97, 100, 100]), .lit (.int .i64 2), .lit (.int .i64 1), .lit (.int .i64 1)], .agg [.lit (.string [115, 117, 98]), .lit (.int .i64 2), .lit (.int .i64 1), .lit (.int .i64 1)], .agg [.lit (.string [109, 117, 108]), .lit (.int .i64 2), .lit (.int .i64 1), .lit (.int .i64 1)], .agg [.lit (.string [100, 105, 118]), .lit (.int .i64 2), .lit (.int .i64 1), .lit (.int .i64 1)], .agg [.lit (.string [109, 111, 100]), .lit (.int .i64 2), .lit (.int .i64 1), .lit (.int .i64 1)], .agg [.lit (.string [101, 113]), .lit (.int .i64 2), .lit (.int .i64 1), .lit (.int .i64 2)], .agg [.lit (.string [108, 116]), .lit (.int .i64 2), .lit (.int .i64 1), .lit (.int .i64 2)], .agg [.lit (.string [108, 101]), .lit (.int .i64 2), .lit (.int .i64 1), .lit (.int .i64 2)], .agg [.lit (.string [97, 110, 100]), .lit (.int .i64 2), .lit (.int .i64 2), .lit (.int .i64 2)], .agg [.lit (.string [111, 114]), .lit (.int .i64 2), .lit (.int .i64 2), .lit (.int .i64 2)]]

/-- 'treenaillaw10.BlockTexts': WHATEVER THE INPUT: true; the input reads as it did. -/
def blockTextsSpec : ChangeSpec := { name := "blockTexts", fn := fun _ => fun
  | [d] => { results := [.lit (.bool true)], args := [d] }
  | _ => none }
def blockTextsRow : OpenClaim := { program := "ytgppmcpbphgnnaadoor", sum := "b8b90a0d7c2bdfa938af5322ec6ddb516c87cfd06a0a203f1675b661aa08cd41", func := "treenail/treenaillaw10.BlockTexts", spec := "blockTexts", unfollowed := true, recurses := true, named := ["treenail/block.names"], loops := true, apart := false, laid := [("treenail/block.names", laid_treenail_block_names)] }
def BlockTextsSaid : Prop := blockTextsRow.holds Tryd.pinned (OpenSpec.ofChange blockTextsSpec)

/-- ITS FALSE NEIGHBOUR: 'it returns false'. Refute it at one input. -/
def blockTextsWrong : ChangeSpec := { name := "blockTexts", fn := fun _ => fun
  | [d] => { results := [.lit (.bool false)], args := [d] }
  | _ => none }
def BlockTextsWrongFalsely : Prop := blockTextsRow.holds Tryd.pinned (OpenSpec.ofChange blockTextsWrong)

/-- 'treenaillaw10.BlockSame': WHATEVER THE INPUT: true; the input reads as it did. -/
def blockSameSpec : ChangeSpec := { name := "blockSame", fn := fun _ => fun
  | [d1, d2] => { results := [.lit (.bool true)], args := [d1, d2] }
  | _ => none }
def blockSameRow : OpenClaim := { program := "ytgppmcpbphgnnaadoor", sum := "b8b90a0d7c2bdfa938af5322ec6ddb516c87cfd06a0a203f1675b661aa08cd41", func := "treenail/treenaillaw10.BlockSame", spec := "blockSame", unfollowed := true, recurses := true, named := ["treenail/block.names"], loops := true, apart := false, laid := [("treenail/block.names", laid_treenail_block_names)] }
def BlockSameSaid : Prop := blockSameRow.holds Tryd.pinned (OpenSpec.ofChange blockSameSpec)

/-- ITS FALSE NEIGHBOUR: 'it returns false'. Refute it at one input. -/
def blockSameWrong : ChangeSpec := { name := "blockSame", fn := fun _ => fun
  | [d1, d2] => { results := [.lit (.bool false)], args := [d1, d2] }
  | _ => none }
def BlockSameWrongFalsely : Prop := blockSameRow.holds Tryd.pinned (OpenSpec.ofChange blockSameWrong)

/-- 'treenaillaw03.TermChecks': WHATEVER THE INPUT: true; the input reads as it did. -/
def termChecksSpec : ChangeSpec := { name := "termChecks", fn := fun _ => fun
  | [d] => { results := [.lit (.bool true)], args := [d] }
  | _ => none }
def termChecksRow : OpenClaim := { program := "ytgppmcpbphgnnaadoor", sum := "b8b90a0d7c2bdfa938af5322ec6ddb516c87cfd06a0a203f1675b661aa08cd41", func := "treenail/treenaillaw03.TermChecks", spec := "termChecks", inPlace := ["internal/abi.NoEscape"], unfollowed := true, recurses := true, named := ["treenail/term.words"], loops := true, apart := false, laid := [("treenail/term.words", laid_treenail_term_words)] }
def TermChecksSaid : Prop := termChecksRow.holds Tryd.pinned (OpenSpec.ofChange termChecksSpec)

/-- ITS FALSE NEIGHBOUR: 'it returns false'. Refute it at one input. -/
def termChecksWrong : ChangeSpec := { name := "termChecks", fn := fun _ => fun
  | [d] => { results := [.lit (.bool false)], args := [d] }
  | _ => none }
def TermChecksWrongFalsely : Prop := termChecksRow.holds Tryd.pinned (OpenSpec.ofChange termChecksWrong)

/-- 'treenaillaw03.TermTexts': WHATEVER THE INPUT: true; the input reads as it did. -/
def termTextsSpec : ChangeSpec := { name := "termTexts", fn := fun _ => fun
  | [d] => { results := [.lit (.bool true)], args := [d] }
  | _ => none }
def termTextsRow : OpenClaim := { program := "ytgppmcpbphgnnaadoor", sum := "b8b90a0d7c2bdfa938af5322ec6ddb516c87cfd06a0a203f1675b661aa08cd41", func := "treenail/treenaillaw03.TermTexts", spec := "termTexts", inPlace := ["internal/abi.NoEscape"], unfollowed := true, recurses := true, named := ["treenail/term.words"], loops := true, apart := false, laid := [("treenail/term.words", laid_treenail_term_words)] }
def TermTextsSaid : Prop := termTextsRow.holds Tryd.pinned (OpenSpec.ofChange termTextsSpec)

/-- ITS FALSE NEIGHBOUR: 'it returns false'. Refute it at one input. -/
def termTextsWrong : ChangeSpec := { name := "termTexts", fn := fun _ => fun
  | [d] => { results := [.lit (.bool false)], args := [d] }
  | _ => none }
def TermTextsWrongFalsely : Prop := termTextsRow.holds Tryd.pinned (OpenSpec.ofChange termTextsWrong)

/-- 'treenaillaw03.TermParses': WHATEVER THE INPUT: true; the input reads as it did. -/
def termParsesSpec : ChangeSpec := { name := "termParses", fn := fun _ => fun
  | [d] => { results := [.lit (.bool true)], args := [d] }
  | _ => none }
def termParsesRow : OpenClaim := { program := "ytgppmcpbphgnnaadoor", sum := "b8b90a0d7c2bdfa938af5322ec6ddb516c87cfd06a0a203f1675b661aa08cd41", func := "treenail/treenaillaw03.TermParses", spec := "termParses", inPlace := ["internal/abi.NoEscape"], unfollowed := true, recurses := true, named := ["treenail/term.words"], apart := false, laid := [("treenail/term.words", laid_treenail_term_words)] }
def TermParsesSaid : Prop := termParsesRow.holds Tryd.pinned (OpenSpec.ofChange termParsesSpec)

/-- ITS FALSE NEIGHBOUR: 'it returns false'. Refute it at one input. -/
def termParsesWrong : ChangeSpec := { name := "termParses", fn := fun _ => fun
  | [d] => { results := [.lit (.bool false)], args := [d] }
  | _ => none }
def TermParsesWrongFalsely : Prop := termParsesRow.holds Tryd.pinned (OpenSpec.ofChange termParsesWrong)

/-- 'treenaillaw03.TermBack': WHATEVER THE INPUT: true; the input reads as it did. -/
def termBackSpec : ChangeSpec := { name := "termBack", fn := fun _ => fun
  | [d1, d2] => { results := [.lit (.bool true)], args := [d1, d2] }
  | _ => none }
def termBackRow : OpenClaim := { program := "ytgppmcpbphgnnaadoor", sum := "b8b90a0d7c2bdfa938af5322ec6ddb516c87cfd06a0a203f1675b661aa08cd41", func := "treenail/treenaillaw03.TermBack", spec := "termBack", inPlace := ["internal/abi.NoEscape"], unfollowed := true, recurses := true, named := ["treenail/term.words"], loops := true, apart := false, laid := [("treenail/term.words", laid_treenail_term_words)] }
def TermBackSaid : Prop := termBackRow.holds Tryd.pinned (OpenSpec.ofChange termBackSpec)

/-- ITS FALSE NEIGHBOUR: 'it returns false'. Refute it at one input. -/
def termBackWrong : ChangeSpec := { name := "termBack", fn := fun _ => fun
  | [d1, d2] => { results := [.lit (.bool false)], args := [d1, d2] }
  | _ => none }
def TermBackWrongFalsely : Prop := termBackRow.holds Tryd.pinned (OpenSpec.ofChange termBackWrong)

/-- 'treenaillaw03.TermLooks': WHATEVER THE INPUT: true; the input reads as it did. -/
def termLooksSpec : ChangeSpec := { name := "termLooks", fn := fun _ => fun
  | [d1, d2] => { results := [.lit (.bool true)], args := [d1, d2] }
  | _ => none }
def termLooksRow : OpenClaim := { program := "ytgppmcpbphgnnaadoor", sum := "b8b90a0d7c2bdfa938af5322ec6ddb516c87cfd06a0a203f1675b661aa08cd41", func := "treenail/treenaillaw03.TermLooks", spec := "termLooks", inPlace := ["internal/abi.NoEscape"], unfollowed := true, recurses := true, named := ["treenail/term.words"], loops := true, apart := false, laid := [("treenail/term.words", laid_treenail_term_words)] }
def TermLooksSaid : Prop := termLooksRow.holds Tryd.pinned (OpenSpec.ofChange termLooksSpec)

/-- ITS FALSE NEIGHBOUR: 'it returns false'. Refute it at one input. -/
def termLooksWrong : ChangeSpec := { name := "termLooks", fn := fun _ => fun
  | [d1, d2] => { results := [.lit (.bool false)], args := [d1, d2] }
  | _ => none }
def TermLooksWrongFalsely : Prop := termLooksRow.holds Tryd.pinned (OpenSpec.ofChange termLooksWrong)

/- THE SECOND FORM. 'bulk': how many values and letters a reading holds, each counted each time it is reached (what is shared counts as often as it is met; a slice's spare places count too). A statement '..UptoSaid' is the law's where the arguments, and the package variables that the reading takes, are together of bulk at most 1048576: NARROWER than '..Said'. Prove '..Said' where nothing that the law and all that it calls make is longer than what came in: it says more and counts as full. Else prove '..UptoSaid'. A law counts once. -/
mutual
def uptoBulk {H : Type} : DataW H → Nat
  | .lit (.string bytes) => bytes.length + 1
  | .lit _ => 1
  | .nil => 1
  | .ptr d => uptoBulk d + 1
  | .slice elems spare => uptoBulkAll elems + uptoBulkAll spare + 1
  | .agg parts => uptoBulkAll parts + 1
  | .iface _ d => uptoBulk d + 1
  | .map entries => uptoBulkEntries entries + 1
  | .held _ => 1
def uptoBulkAll {H : Type} : List (DataW H) → Nat
  | [] => 0
  | d :: r => uptoBulk d + uptoBulkAll r
def uptoBulkEntries {H : Type} : List (Lit × DataW H) → Nat
  | [] => 0
  | x :: r => uptoBulkEntry x + uptoBulkEntries r
def uptoBulkEntry {H : Type} : Lit × DataW H → Nat
  | (.string bytes, d) => bytes.length + uptoBulk d + 1
  | (_, d) => uptoBulk d + 1
 end
def uptoSmall : (H : Type) → List (DataW H) → Bool := fun _ ds => decide (uptoBulkAll ds ≤ 1048576)
def OpenSpec.upto (s : _root_.Go.ChangeSpec) : _root_.Go.OpenSpec := { _root_.Go.OpenSpec.ofChange s with cond := some uptoSmall }

/-- 'treenaillaw10.BlockTexts', WHERE WHAT IT READS IS OF BULK AT MOST 1048576: true; the input reads as it did. -/
def blockTextsUptoRow : OpenClaim := { program := "ytgppmcpbphgnnaadoor", sum := "b8b90a0d7c2bdfa938af5322ec6ddb516c87cfd06a0a203f1675b661aa08cd41", func := "treenail/treenaillaw10.BlockTexts", spec := "blockTexts", unfollowed := true, recurses := true, named := ["treenail/block.names"], loops := true, apart := false, laid := [("treenail/block.names", laid_treenail_block_names)], narrowed := true }
def BlockTextsUptoSaid : Prop := blockTextsUptoRow.holds Tryd.pinned (OpenSpec.upto blockTextsSpec)

/-- 'treenaillaw10.BlockSame', WHERE WHAT IT READS IS OF BULK AT MOST 1048576: true; the input reads as it did. -/
def blockSameUptoRow : OpenClaim := { program := "ytgppmcpbphgnnaadoor", sum := "b8b90a0d7c2bdfa938af5322ec6ddb516c87cfd06a0a203f1675b661aa08cd41", func := "treenail/treenaillaw10.BlockSame", spec := "blockSame", unfollowed := true, recurses := true, named := ["treenail/block.names"], loops := true, apart := false, laid := [("treenail/block.names", laid_treenail_block_names)], narrowed := true }
def BlockSameUptoSaid : Prop := blockSameUptoRow.holds Tryd.pinned (OpenSpec.upto blockSameSpec)

/-- 'treenaillaw03.TermChecks', WHERE WHAT IT READS IS OF BULK AT MOST 1048576: true; the input reads as it did. -/
def termChecksUptoRow : OpenClaim := { program := "ytgppmcpbphgnnaadoor", sum := "b8b90a0d7c2bdfa938af5322ec6ddb516c87cfd06a0a203f1675b661aa08cd41", func := "treenail/treenaillaw03.TermChecks", spec := "termChecks", inPlace := ["internal/abi.NoEscape"], unfollowed := true, recurses := true, named := ["treenail/term.words"], loops := true, apart := false, laid := [("treenail/term.words", laid_treenail_term_words)], narrowed := true }
def TermChecksUptoSaid : Prop := termChecksUptoRow.holds Tryd.pinned (OpenSpec.upto termChecksSpec)

/-- 'treenaillaw03.TermTexts', WHERE WHAT IT READS IS OF BULK AT MOST 1048576: true; the input reads as it did. -/
def termTextsUptoRow : OpenClaim := { program := "ytgppmcpbphgnnaadoor", sum := "b8b90a0d7c2bdfa938af5322ec6ddb516c87cfd06a0a203f1675b661aa08cd41", func := "treenail/treenaillaw03.TermTexts", spec := "termTexts", inPlace := ["internal/abi.NoEscape"], unfollowed := true, recurses := true, named := ["treenail/term.words"], loops := true, apart := false, laid := [("treenail/term.words", laid_treenail_term_words)], narrowed := true }
def TermTextsUptoSaid : Prop := termTextsUptoRow.holds Tryd.pinned (OpenSpec.upto termTextsSpec)

/-- 'treenaillaw03.TermParses', WHERE WHAT IT READS IS OF BULK AT MOST 1048576: true; the input reads as it did. -/
def termParsesUptoRow : OpenClaim := { program := "ytgppmcpbphgnnaadoor", sum := "b8b90a0d7c2bdfa938af5322ec6ddb516c87cfd06a0a203f1675b661aa08cd41", func := "treenail/treenaillaw03.TermParses", spec := "termParses", inPlace := ["internal/abi.NoEscape"], unfollowed := true, recurses := true, named := ["treenail/term.words"], apart := false, laid := [("treenail/term.words", laid_treenail_term_words)], narrowed := true }
def TermParsesUptoSaid : Prop := termParsesUptoRow.holds Tryd.pinned (OpenSpec.upto termParsesSpec)

/-- 'treenaillaw03.TermBack', WHERE WHAT IT READS IS OF BULK AT MOST 1048576: true; the input reads as it did. -/
def termBackUptoRow : OpenClaim := { program := "ytgppmcpbphgnnaadoor", sum := "b8b90a0d7c2bdfa938af5322ec6ddb516c87cfd06a0a203f1675b661aa08cd41", func := "treenail/treenaillaw03.TermBack", spec := "termBack", inPlace := ["internal/abi.NoEscape"], unfollowed := true, recurses := true, named := ["treenail/term.words"], loops := true, apart := false, laid := [("treenail/term.words", laid_treenail_term_words)], narrowed := true }
def TermBackUptoSaid : Prop := termBackUptoRow.holds Tryd.pinned (OpenSpec.upto termBackSpec)

/-- 'treenaillaw03.TermLooks', WHERE WHAT IT READS IS OF BULK AT MOST 1048576: true; the input reads as it did. -/
def termLooksUptoRow : OpenClaim := { program := "ytgppmcpbphgnnaadoor", sum := "b8b90a0d7c2bdfa938af5322ec6ddb516c87cfd06a0a203f1675b661aa08cd41", func := "treenail/treenaillaw03.TermLooks", spec := "termLooks", inPlace := ["internal/abi.NoEscape"], unfollowed := true, recurses := true, named := ["treenail/term.words"], loops := true, apart := false, laid := [("treenail/term.words", laid_treenail_term_words)], narrowed := true }
def TermLooksUptoSaid : Prop := termLooksUptoRow.holds Tryd.pinned (OpenSpec.upto termLooksSpec)

end Rows
end Go.Proofs.YtgppmcpbphgnnaaDoor
