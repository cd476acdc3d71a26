/-
  No cell of these rows narrows 'for every input' (looked for: loops, veiled, ifaces, maps, wideKeys, modest, calm, conditions, laid).
  DERIVED. THE GIVEN ROWS OF THIS SEAT. 5 by the template 'for every input the law returns true; each argument reads behind the call as it read before'; 0 by the template 'total and deterministic' (their statements: YtgppmcpbphgnnaaTotals.lean).
  GIVEN WITH THE SEED: the statements are not yours to turn. If you find one false, say at which input.
  Laid BY PROGRAM, IN A SANDBOX (cutbox-rows.mjs): the forced cells as the released guide's own fill.sh prints them over the translation 57c68d43540f6ac7… (all of the seat's roots in one cut). By AI agents, Wed Nov 11 2026. No macro, syntax, notation, axiom, sorry.
-/
import Derived.Test.YtgppmcpbphgnnaaChecked
import GoSem.Claim
import GoSem.ClaimJoined
import GoSem.ClaimMapViews
import Derived.JoinedTies
import Derived.KernelRfl
namespace Go.Proofs.Ytgppmcpbphgnnaa
/- THE CELL 'sum', in the pinned program and in every row, IS THE sha256 OF THE DUMP (.gsa) THAT YtgppmcpbphgnnaaProg.lean LOADS. Nothing in Lean hashes anything: it is a label: what it is worth is what the hold of that sum in a sandbox is worth. -/
noncomputable def Try.pinned : Pinned := { name := "ytgppmcpbphgnnaa", sum := "57c68d43540f6ac7f095c327b7dc38a2113e76ef97ad193d66dd890e2a40af65", checked := Try.checked }
namespace Rows
def none {H : Type} : Left H := { results := [], args := [] }

/-- 'treenaillaw21.PostSteps': WHATEVER THE INPUT: true; the input reads as it did. -/
def postStepsSpec : ChangeSpec := { name := "postSteps", fn := fun _ => fun
  | [d1, d2] => { results := [.lit (.bool true)], args := [d1, d2] }
  | _ => none }
def postStepsRow : OpenClaim := { program := "ytgppmcpbphgnnaa", sum := "57c68d43540f6ac7f095c327b7dc38a2113e76ef97ad193d66dd890e2a40af65", func := "treenail/treenaillaw21.PostSteps", spec := "postSteps", unfollowed := true, recurses := true, apart := false }
def PostStepsSaid : Prop := postStepsRow.holds Try.pinned (OpenSpec.ofChange postStepsSpec)

/-- ITS FALSE NEIGHBOUR: 'it returns false'. Refute it at one input. -/
def postStepsWrong : ChangeSpec := { name := "postSteps", fn := fun _ => fun
  | [d1, d2] => { results := [.lit (.bool false)], args := [d1, d2] }
  | _ => none }
def PostStepsWrongFalsely : Prop := postStepsRow.holds Try.pinned (OpenSpec.ofChange postStepsWrong)

/-- 'treenaillaw21.PostApart': WHATEVER THE INPUT: true; the input reads as it did. -/
def postApartSpec : ChangeSpec := { name := "postApart", fn := fun _ => fun
  | [d1, d2] => { results := [.lit (.bool true)], args := [d1, d2] }
  | _ => none }
def postApartRow : OpenClaim := { program := "ytgppmcpbphgnnaa", sum := "57c68d43540f6ac7f095c327b7dc38a2113e76ef97ad193d66dd890e2a40af65", func := "treenail/treenaillaw21.PostApart", spec := "postApart", unfollowed := true, recurses := true, apart := false }
def PostApartSaid : Prop := postApartRow.holds Try.pinned (OpenSpec.ofChange postApartSpec)

/-- ITS FALSE NEIGHBOUR: 'it returns false'. Refute it at one input. -/
def postApartWrong : ChangeSpec := { name := "postApart", fn := fun _ => fun
  | [d1, d2] => { results := [.lit (.bool false)], args := [d1, d2] }
  | _ => none }
def PostApartWrongFalsely : Prop := postApartRow.holds Try.pinned (OpenSpec.ofChange postApartWrong)

/-- 'treenaillaw21.PostCounts': WHATEVER THE INPUT: true; the input reads as it did. -/
def postCountsSpec : ChangeSpec := { name := "postCounts", fn := fun _ => fun
  | [d1, d2, d3] => { results := [.lit (.bool true)], args := [d1, d2, d3] }
  | _ => none }
def postCountsRow : OpenClaim := { program := "ytgppmcpbphgnnaa", sum := "57c68d43540f6ac7f095c327b7dc38a2113e76ef97ad193d66dd890e2a40af65", func := "treenail/treenaillaw21.PostCounts", spec := "postCounts", unfollowed := true, recurses := true, apart := false }
def PostCountsSaid : Prop := postCountsRow.holds Try.pinned (OpenSpec.ofChange postCountsSpec)

/-- ITS FALSE NEIGHBOUR: 'it returns false'. Refute it at one input. -/
def postCountsWrong : ChangeSpec := { name := "postCounts", fn := fun _ => fun
  | [d1, d2, d3] => { results := [.lit (.bool false)], args := [d1, d2, d3] }
  | _ => none }
def PostCountsWrongFalsely : Prop := postCountsRow.holds Try.pinned (OpenSpec.ofChange postCountsWrong)

/-- 'treenaillaw21.PostCopies': WHATEVER THE INPUT: true; the input reads as it did. -/
def postCopiesSpec : ChangeSpec := { name := "postCopies", fn := fun _ => fun
  | [d1, d2, d3] => { results := [.lit (.bool true)], args := [d1, d2, d3] }
  | _ => none }
def postCopiesRow : OpenClaim := { program := "ytgppmcpbphgnnaa", sum := "57c68d43540f6ac7f095c327b7dc38a2113e76ef97ad193d66dd890e2a40af65", func := "treenail/treenaillaw21.PostCopies", spec := "postCopies", inPlace := ["maps.clone"], unfollowed := true, recurses := true, apart := false }
def PostCopiesSaid : Prop := postCopiesRow.holds Try.pinned (OpenSpec.ofChange postCopiesSpec)

/-- ITS FALSE NEIGHBOUR: 'it returns false'. Refute it at one input. -/
def postCopiesWrong : ChangeSpec := { name := "postCopies", fn := fun _ => fun
  | [d1, d2, d3] => { results := [.lit (.bool false)], args := [d1, d2, d3] }
  | _ => none }
def PostCopiesWrongFalsely : Prop := postCopiesRow.holds Try.pinned (OpenSpec.ofChange postCopiesWrong)

/-- 'treenaillaw21.PostNil': WHATEVER THE INPUT: true; the input reads as it did. -/
def postNilSpec : ChangeSpec := { name := "postNil", fn := fun _ => fun
  | [d] => { results := [.lit (.bool true)], args := [d] }
  | _ => none }
def postNilRow : OpenClaim := { program := "ytgppmcpbphgnnaa", sum := "57c68d43540f6ac7f095c327b7dc38a2113e76ef97ad193d66dd890e2a40af65", func := "treenail/treenaillaw21.PostNil", spec := "postNil", inPlace := ["maps.clone"], unfollowed := true, recurses := true, apart := false }
def PostNilSaid : Prop := postNilRow.holds Try.pinned (OpenSpec.ofChange postNilSpec)

/-- ITS FALSE NEIGHBOUR: 'it returns false'. Refute it at one input. -/
def postNilWrong : ChangeSpec := { name := "postNil", fn := fun _ => fun
  | [d] => { results := [.lit (.bool false)], args := [d] }
  | _ => none }
def PostNilWrongFalsely : Prop := postNilRow.holds Try.pinned (OpenSpec.ofChange postNilWrong)

/- THE SECOND FORM. 'bulk': how many values and letters a reading holds, each counted each time it is reached (what is shared counts as often as it is met; a slice's spare places count too). A statement '..UptoSaid' is the law's where the arguments, and the package variables that the reading takes, are together of bulk at most 1048576: NARROWER than '..Said'. Prove '..Said' where nothing that the law and all that it calls make is longer than what came in: it says more and counts as full. Else prove '..UptoSaid'. A law counts once. -/
mutual
def uptoBulk {H : Type} : DataW H → Nat
  | .lit (.string bytes) => bytes.length + 1
  | .lit _ => 1
  | .nil => 1
  | .ptr d => uptoBulk d + 1
  | .slice elems spare => uptoBulkAll elems + uptoBulkAll spare + 1
  | .agg parts => uptoBulkAll parts + 1
  | .iface _ d => uptoBulk d + 1
  | .map entries => uptoBulkEntries entries + 1
  | .held _ => 1
def uptoBulkAll {H : Type} : List (DataW H) → Nat
  | [] => 0
  | d :: r => uptoBulk d + uptoBulkAll r
def uptoBulkEntries {H : Type} : List (Lit × DataW H) → Nat
  | [] => 0
  | x :: r => uptoBulkEntry x + uptoBulkEntries r
def uptoBulkEntry {H : Type} : Lit × DataW H → Nat
  | (.string bytes, d) => bytes.length + uptoBulk d + 1
  | (_, d) => uptoBulk d + 1
 end
def uptoSmall : (H : Type) → List (DataW H) → Bool := fun _ ds => decide (uptoBulkAll ds ≤ 1048576)
def OpenSpec.upto (s : _root_.Go.ChangeSpec) : _root_.Go.OpenSpec := { _root_.Go.OpenSpec.ofChange s with cond := some uptoSmall }

/-- 'treenaillaw21.PostSteps', WHERE WHAT IT READS IS OF BULK AT MOST 1048576: true; the input reads as it did. -/
def postStepsUptoRow : OpenClaim := { program := "ytgppmcpbphgnnaa", sum := "57c68d43540f6ac7f095c327b7dc38a2113e76ef97ad193d66dd890e2a40af65", func := "treenail/treenaillaw21.PostSteps", spec := "postSteps", unfollowed := true, recurses := true, apart := false, narrowed := true }
def PostStepsUptoSaid : Prop := postStepsUptoRow.holds Try.pinned (OpenSpec.upto postStepsSpec)

/-- 'treenaillaw21.PostApart', WHERE WHAT IT READS IS OF BULK AT MOST 1048576: true; the input reads as it did. -/
def postApartUptoRow : OpenClaim := { program := "ytgppmcpbphgnnaa", sum := "57c68d43540f6ac7f095c327b7dc38a2113e76ef97ad193d66dd890e2a40af65", func := "treenail/treenaillaw21.PostApart", spec := "postApart", unfollowed := true, recurses := true, apart := false, narrowed := true }
def PostApartUptoSaid : Prop := postApartUptoRow.holds Try.pinned (OpenSpec.upto postApartSpec)

/-- 'treenaillaw21.PostCounts', WHERE WHAT IT READS IS OF BULK AT MOST 1048576: true; the input reads as it did. -/
def postCountsUptoRow : OpenClaim := { program := "ytgppmcpbphgnnaa", sum := "57c68d43540f6ac7f095c327b7dc38a2113e76ef97ad193d66dd890e2a40af65", func := "treenail/treenaillaw21.PostCounts", spec := "postCounts", unfollowed := true, recurses := true, apart := false, narrowed := true }
def PostCountsUptoSaid : Prop := postCountsUptoRow.holds Try.pinned (OpenSpec.upto postCountsSpec)

/-- 'treenaillaw21.PostCopies', WHERE WHAT IT READS IS OF BULK AT MOST 1048576: true; the input reads as it did. -/
def postCopiesUptoRow : OpenClaim := { program := "ytgppmcpbphgnnaa", sum := "57c68d43540f6ac7f095c327b7dc38a2113e76ef97ad193d66dd890e2a40af65", func := "treenail/treenaillaw21.PostCopies", spec := "postCopies", inPlace := ["maps.clone"], unfollowed := true, recurses := true, apart := false, narrowed := true }
def PostCopiesUptoSaid : Prop := postCopiesUptoRow.holds Try.pinned (OpenSpec.upto postCopiesSpec)

/-- 'treenaillaw21.PostNil', WHERE WHAT IT READS IS OF BULK AT MOST 1048576: true; the input reads as it did. -/
def postNilUptoRow : OpenClaim := { program := "ytgppmcpbphgnnaa", sum := "57c68d43540f6ac7f095c327b7dc38a2113e76ef97ad193d66dd890e2a40af65", func := "treenail/treenaillaw21.PostNil", spec := "postNil", inPlace := ["maps.clone"], unfollowed := true, recurses := true, apart := false, narrowed := true }
def PostNilUptoSaid : Prop := postNilUptoRow.holds Try.pinned (OpenSpec.upto postNilSpec)

end Rows
end Go.Proofs.Ytgppmcpbphgnnaa
