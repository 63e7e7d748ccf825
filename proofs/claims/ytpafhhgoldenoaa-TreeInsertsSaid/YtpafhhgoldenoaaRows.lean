/-
  No cell of these rows narrows 'for every input' (looked for: loops, veiled, ifaces, maps, wideKeys, modest, calm, conditions, laid).
  DERIVED. THE GIVEN ROWS OF THIS SEAT. 6 by the template 'for every input the law returns true; each argument reads behind the call as it read before'; 0 by the template 'total and deterministic' (their statements: YtpafhhgoldenoaaTotals.lean).
  GIVEN WITH THE SEED: the statements are not yours to turn. If you find one false, say at which input.
  Laid BY PROGRAM, IN A SANDBOX (cutbox-rows.mjs): the forced cells as the released guide's own fill.sh prints them over the translation 625c80e0dcbc7a96… (all of the seat's roots in one cut). By AI agents, Wed Nov 11 2026. No macro, syntax, notation, axiom, sorry.
-/
import Derived.Test.YtpafhhgoldenoaaChecked
import GoSem.Claim
import GoSem.ClaimJoined
import GoSem.ClaimMapViews
import Derived.JoinedTies
import Derived.KernelRfl
namespace Go.Proofs.Ytpafhhgoldenoaa
/- THE CELL 'sum', in the pinned program and in every row, IS THE sha256 OF THE DUMP (.gsa) THAT YtpafhhgoldenoaaProg.lean LOADS. Nothing in Lean hashes anything: it is a label: what it is worth is what the hold of that sum in a sandbox is worth. -/
noncomputable def Try.pinned : Pinned := { name := "ytpafhhgoldenoaa", sum := "625c80e0dcbc7a9613bd254538a32b2071f110a321e9599b77877b7e1af97a52", checked := Try.checked }
namespace Rows
def none {H : Type} : Left H := { results := [], args := [] }

/-- 'formelaw10.TreeMatchesReference': WHATEVER THE INPUT: true; the input reads as it did. -/
def treeMatchesReferenceSpec : ChangeSpec := { name := "treeMatchesReference", fn := fun _ => fun
  | [d1, d2, d3, d4, d5] => { results := [.lit (.bool true)], args := [d1, d2, d3, d4, d5] }
  | _ => none }
def treeMatchesReferenceRow : OpenClaim := { program := "ytpafhhgoldenoaa", sum := "625c80e0dcbc7a9613bd254538a32b2071f110a321e9599b77877b7e1af97a52", func := "forme/formelaw10.TreeMatchesReference", spec := "treeMatchesReference", unfollowed := true, recurses := true, apart := false }
def TreeMatchesReferenceSaid : Prop := treeMatchesReferenceRow.holds Try.pinned (OpenSpec.ofChange treeMatchesReferenceSpec)

/-- ITS FALSE NEIGHBOUR: 'it returns false'. Refute it at one input. -/
def treeMatchesReferenceWrong : ChangeSpec := { name := "treeMatchesReference", fn := fun _ => fun
  | [d1, d2, d3, d4, d5] => { results := [.lit (.bool false)], args := [d1, d2, d3, d4, d5] }
  | _ => none }
def TreeMatchesReferenceWrongFalsely : Prop := treeMatchesReferenceRow.holds Try.pinned (OpenSpec.ofChange treeMatchesReferenceWrong)

/-- 'formelaw10.TreeKids': WHATEVER THE INPUT: true; the input reads as it did. -/
def treeKidsSpec : ChangeSpec := { name := "treeKids", fn := fun _ => fun
  | [d] => { results := [.lit (.bool true)], args := [d] }
  | _ => none }
def treeKidsRow : OpenClaim := { program := "ytpafhhgoldenoaa", sum := "625c80e0dcbc7a9613bd254538a32b2071f110a321e9599b77877b7e1af97a52", func := "forme/formelaw10.TreeKids", spec := "treeKids", unfollowed := true, recurses := true, apart := false }
def TreeKidsSaid : Prop := treeKidsRow.holds Try.pinned (OpenSpec.ofChange treeKidsSpec)

/-- ITS FALSE NEIGHBOUR: 'it returns false'. Refute it at one input. -/
def treeKidsWrong : ChangeSpec := { name := "treeKids", fn := fun _ => fun
  | [d] => { results := [.lit (.bool false)], args := [d] }
  | _ => none }
def TreeKidsWrongFalsely : Prop := treeKidsRow.holds Try.pinned (OpenSpec.ofChange treeKidsWrong)

/-- 'formelaw10.TreePaths': WHATEVER THE INPUT: true; the input reads as it did. -/
def treePathsSpec : ChangeSpec := { name := "treePaths", fn := fun _ => fun
  | [d1, d2] => { results := [.lit (.bool true)], args := [d1, d2] }
  | _ => none }
def treePathsRow : OpenClaim := { program := "ytpafhhgoldenoaa", sum := "625c80e0dcbc7a9613bd254538a32b2071f110a321e9599b77877b7e1af97a52", func := "forme/formelaw10.TreePaths", spec := "treePaths", unfollowed := true, recurses := true, apart := false }
def TreePathsSaid : Prop := treePathsRow.holds Try.pinned (OpenSpec.ofChange treePathsSpec)

/-- ITS FALSE NEIGHBOUR: 'it returns false'. Refute it at one input. -/
def treePathsWrong : ChangeSpec := { name := "treePaths", fn := fun _ => fun
  | [d1, d2] => { results := [.lit (.bool false)], args := [d1, d2] }
  | _ => none }
def TreePathsWrongFalsely : Prop := treePathsRow.holds Try.pinned (OpenSpec.ofChange treePathsWrong)

/-- 'formelaw10.TreeInserts': WHATEVER THE INPUT: true; the input reads as it did. -/
def treeInsertsSpec : ChangeSpec := { name := "treeInserts", fn := fun _ => fun
  | [d1, d2, d3] => { results := [.lit (.bool true)], args := [d1, d2, d3] }
  | _ => none }
def treeInsertsRow : OpenClaim := { program := "ytpafhhgoldenoaa", sum := "625c80e0dcbc7a9613bd254538a32b2071f110a321e9599b77877b7e1af97a52", func := "forme/formelaw10.TreeInserts", spec := "treeInserts", unfollowed := true, recurses := true, apart := false }
def TreeInsertsSaid : Prop := treeInsertsRow.holds Try.pinned (OpenSpec.ofChange treeInsertsSpec)

/-- ITS FALSE NEIGHBOUR: 'it returns false'. Refute it at one input. -/
def treeInsertsWrong : ChangeSpec := { name := "treeInserts", fn := fun _ => fun
  | [d1, d2, d3] => { results := [.lit (.bool false)], args := [d1, d2, d3] }
  | _ => none }
def TreeInsertsWrongFalsely : Prop := treeInsertsRow.holds Try.pinned (OpenSpec.ofChange treeInsertsWrong)

/-- 'formelaw10.TreeRemoves': WHATEVER THE INPUT: true; the input reads as it did. -/
def treeRemovesSpec : ChangeSpec := { name := "treeRemoves", fn := fun _ => fun
  | [d1, d2] => { results := [.lit (.bool true)], args := [d1, d2] }
  | _ => none }
def treeRemovesRow : OpenClaim := { program := "ytpafhhgoldenoaa", sum := "625c80e0dcbc7a9613bd254538a32b2071f110a321e9599b77877b7e1af97a52", func := "forme/formelaw10.TreeRemoves", spec := "treeRemoves", unfollowed := true, recurses := true, apart := false }
def TreeRemovesSaid : Prop := treeRemovesRow.holds Try.pinned (OpenSpec.ofChange treeRemovesSpec)

/-- ITS FALSE NEIGHBOUR: 'it returns false'. Refute it at one input. -/
def treeRemovesWrong : ChangeSpec := { name := "treeRemoves", fn := fun _ => fun
  | [d1, d2] => { results := [.lit (.bool false)], args := [d1, d2] }
  | _ => none }
def TreeRemovesWrongFalsely : Prop := treeRemovesRow.holds Try.pinned (OpenSpec.ofChange treeRemovesWrong)

/-- 'formelaw10.TreeMoves': WHATEVER THE INPUT: true; the input reads as it did. -/
def treeMovesSpec : ChangeSpec := { name := "treeMoves", fn := fun _ => fun
  | [d1, d2, d3, d4] => { results := [.lit (.bool true)], args := [d1, d2, d3, d4] }
  | _ => none }
def treeMovesRow : OpenClaim := { program := "ytpafhhgoldenoaa", sum := "625c80e0dcbc7a9613bd254538a32b2071f110a321e9599b77877b7e1af97a52", func := "forme/formelaw10.TreeMoves", spec := "treeMoves", unfollowed := true, recurses := true, apart := false }
def TreeMovesSaid : Prop := treeMovesRow.holds Try.pinned (OpenSpec.ofChange treeMovesSpec)

/-- ITS FALSE NEIGHBOUR: 'it returns false'. Refute it at one input. -/
def treeMovesWrong : ChangeSpec := { name := "treeMoves", fn := fun _ => fun
  | [d1, d2, d3, d4] => { results := [.lit (.bool false)], args := [d1, d2, d3, d4] }
  | _ => none }
def TreeMovesWrongFalsely : Prop := treeMovesRow.holds Try.pinned (OpenSpec.ofChange treeMovesWrong)

/- THE SECOND FORM. 'bulk': how many values and letters a reading holds, each counted each time it is reached (what is shared counts as often as it is met; a slice's spare places count too). A statement '..UptoSaid' is the law's where the arguments, and the package variables that the reading takes, are together of bulk at most 1048576: NARROWER than '..Said'. Prove '..Said' where nothing that the law and all that it calls make is longer than what came in: it says more and counts as full. Else prove '..UptoSaid'. A law counts once. -/
mutual
def uptoBulk {H : Type} : DataW H → Nat
  | .lit (.string bytes) => bytes.length + 1
  | .lit _ => 1
  | .nil => 1
  | .ptr d => uptoBulk d + 1
  | .slice elems spare => uptoBulkAll elems + uptoBulkAll spare + 1
  | .agg parts => uptoBulkAll parts + 1
  | .iface _ d => uptoBulk d + 1
  | .map entries => uptoBulkEntries entries + 1
  | .held _ => 1
def uptoBulkAll {H : Type} : List (DataW H) → Nat
  | [] => 0
  | d :: r => uptoBulk d + uptoBulkAll r
def uptoBulkEntries {H : Type} : List (Lit × DataW H) → Nat
  | [] => 0
  | x :: r => uptoBulkEntry x + uptoBulkEntries r
def uptoBulkEntry {H : Type} : Lit × DataW H → Nat
  | (.string bytes, d) => bytes.length + uptoBulk d + 1
  | (_, d) => uptoBulk d + 1
 end
def uptoSmall : (H : Type) → List (DataW H) → Bool := fun _ ds => decide (uptoBulkAll ds ≤ 1048576)
def OpenSpec.upto (s : _root_.Go.ChangeSpec) : _root_.Go.OpenSpec := { _root_.Go.OpenSpec.ofChange s with cond := some uptoSmall }

/-- 'formelaw10.TreeMatchesReference', WHERE WHAT IT READS IS OF BULK AT MOST 1048576: true; the input reads as it did. -/
def treeMatchesReferenceUptoRow : OpenClaim := { program := "ytpafhhgoldenoaa", sum := "625c80e0dcbc7a9613bd254538a32b2071f110a321e9599b77877b7e1af97a52", func := "forme/formelaw10.TreeMatchesReference", spec := "treeMatchesReference", unfollowed := true, recurses := true, apart := false, narrowed := true }
def TreeMatchesReferenceUptoSaid : Prop := treeMatchesReferenceUptoRow.holds Try.pinned (OpenSpec.upto treeMatchesReferenceSpec)

/-- 'formelaw10.TreeKids', WHERE WHAT IT READS IS OF BULK AT MOST 1048576: true; the input reads as it did. -/
def treeKidsUptoRow : OpenClaim := { program := "ytpafhhgoldenoaa", sum := "625c80e0dcbc7a9613bd254538a32b2071f110a321e9599b77877b7e1af97a52", func := "forme/formelaw10.TreeKids", spec := "treeKids", unfollowed := true, recurses := true, apart := false, narrowed := true }
def TreeKidsUptoSaid : Prop := treeKidsUptoRow.holds Try.pinned (OpenSpec.upto treeKidsSpec)

/-- 'formelaw10.TreePaths', WHERE WHAT IT READS IS OF BULK AT MOST 1048576: true; the input reads as it did. -/
def treePathsUptoRow : OpenClaim := { program := "ytpafhhgoldenoaa", sum := "625c80e0dcbc7a9613bd254538a32b2071f110a321e9599b77877b7e1af97a52", func := "forme/formelaw10.TreePaths", spec := "treePaths", unfollowed := true, recurses := true, apart := false, narrowed := true }
def TreePathsUptoSaid : Prop := treePathsUptoRow.holds Try.pinned (OpenSpec.upto treePathsSpec)

/-- 'formelaw10.TreeInserts', WHERE WHAT IT READS IS OF BULK AT MOST 1048576: true; the input reads as it did. -/
def treeInsertsUptoRow : OpenClaim := { program := "ytpafhhgoldenoaa", sum := "625c80e0dcbc7a9613bd254538a32b2071f110a321e9599b77877b7e1af97a52", func := "forme/formelaw10.TreeInserts", spec := "treeInserts", unfollowed := true, recurses := true, apart := false, narrowed := true }
def TreeInsertsUptoSaid : Prop := treeInsertsUptoRow.holds Try.pinned (OpenSpec.upto treeInsertsSpec)

/-- 'formelaw10.TreeRemoves', WHERE WHAT IT READS IS OF BULK AT MOST 1048576: true; the input reads as it did. -/
def treeRemovesUptoRow : OpenClaim := { program := "ytpafhhgoldenoaa", sum := "625c80e0dcbc7a9613bd254538a32b2071f110a321e9599b77877b7e1af97a52", func := "forme/formelaw10.TreeRemoves", spec := "treeRemoves", unfollowed := true, recurses := true, apart := false, narrowed := true }
def TreeRemovesUptoSaid : Prop := treeRemovesUptoRow.holds Try.pinned (OpenSpec.upto treeRemovesSpec)

/-- 'formelaw10.TreeMoves', WHERE WHAT IT READS IS OF BULK AT MOST 1048576: true; the input reads as it did. -/
def treeMovesUptoRow : OpenClaim := { program := "ytpafhhgoldenoaa", sum := "625c80e0dcbc7a9613bd254538a32b2071f110a321e9599b77877b7e1af97a52", func := "forme/formelaw10.TreeMoves", spec := "treeMoves", unfollowed := true, recurses := true, apart := false, narrowed := true }
def TreeMovesUptoSaid : Prop := treeMovesUptoRow.holds Try.pinned (OpenSpec.upto treeMovesSpec)

end Rows
end Go.Proofs.Ytpafhhgoldenoaa
