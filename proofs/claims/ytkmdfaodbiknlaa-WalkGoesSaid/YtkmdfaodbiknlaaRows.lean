/-
  No cell of these rows narrows 'for every input' (looked for: loops, veiled, ifaces, maps, wideKeys, modest, calm, conditions, laid).
  DERIVED. THE GIVEN ROWS OF THIS SEAT. 8 by the template 'for every input the law returns true; each argument reads behind the call as it read before'; 0 by the template 'total and deterministic' (their statements: YtkmdfaodbiknlaaTotals.lean).
  GIVEN WITH THE SEED: the statements are not yours to turn. If you find one false, say at which input.
  Laid BY PROGRAM, IN A SANDBOX (cutbox-rows.mjs): the forced cells as the released guide's own fill.sh prints them over the translation edec5ac66523e444… (all of the seat's roots in one cut). By AI agents, Wed Nov 11 2026. No macro, syntax, notation, axiom, sorry.
-/
import Derived.Test.YtkmdfaodbiknlaaChecked
import GoSem.Claim
import GoSem.ClaimJoined
import GoSem.ClaimMapViews
import Derived.JoinedTies
import Derived.KernelRfl
namespace Go.Proofs.Ytkmdfaodbiknlaa
/- THE CELL 'sum', in the pinned program and in every row, IS THE sha256 OF THE DUMP (.gsa) THAT YtkmdfaodbiknlaaProg.lean LOADS. Nothing in Lean hashes anything: it is a label: what it is worth is what the hold of that sum in a sandbox is worth. -/
noncomputable def Try.pinned : Pinned := { name := "ytkmdfaodbiknlaa", sum := "edec5ac66523e44493e25b4b80d2d9637b8ed2e8e8f43794093c79d1bec75ad0", checked := Try.checked }
namespace Rows
def none {H : Type} : Left H := { results := [], args := [] }

/-- 'damierlaw09.TreePlays': WHATEVER THE INPUT: true; the input reads as it did. -/
def treePlaysSpec : ChangeSpec := { name := "treePlays", fn := fun _ => fun
  | [d1, d2] => { results := [.lit (.bool true)], args := [d1, d2] }
  | _ => none }
def treePlaysRow : OpenClaim := { program := "ytkmdfaodbiknlaa", sum := "edec5ac66523e44493e25b4b80d2d9637b8ed2e8e8f43794093c79d1bec75ad0", func := "damier/damierlaw09.TreePlays", spec := "treePlays", recurses := true, apart := false }
def TreePlaysSaid : Prop := treePlaysRow.holds Try.pinned (OpenSpec.ofChange treePlaysSpec)

/-- ITS FALSE NEIGHBOUR: 'it returns false'. Refute it at one input. -/
def treePlaysWrong : ChangeSpec := { name := "treePlays", fn := fun _ => fun
  | [d1, d2] => { results := [.lit (.bool false)], args := [d1, d2] }
  | _ => none }
def TreePlaysWrongFalsely : Prop := treePlaysRow.holds Try.pinned (OpenSpec.ofChange treePlaysWrong)

/-- 'damierlaw09.TreeStays': WHATEVER THE INPUT: true; the input reads as it did. -/
def treeStaysSpec : ChangeSpec := { name := "treeStays", fn := fun _ => fun
  | [d1, d2] => { results := [.lit (.bool true)], args := [d1, d2] }
  | _ => none }
def treeStaysRow : OpenClaim := { program := "ytkmdfaodbiknlaa", sum := "edec5ac66523e44493e25b4b80d2d9637b8ed2e8e8f43794093c79d1bec75ad0", func := "damier/damierlaw09.TreeStays", spec := "treeStays", recurses := true, apart := false }
def TreeStaysSaid : Prop := treeStaysRow.holds Try.pinned (OpenSpec.ofChange treeStaysSpec)

/-- ITS FALSE NEIGHBOUR: 'it returns false'. Refute it at one input. -/
def treeStaysWrong : ChangeSpec := { name := "treeStays", fn := fun _ => fun
  | [d1, d2] => { results := [.lit (.bool false)], args := [d1, d2] }
  | _ => none }
def TreeStaysWrongFalsely : Prop := treeStaysRow.holds Try.pinned (OpenSpec.ofChange treeStaysWrong)

/-- 'damierlaw09.TreeAt': WHATEVER THE INPUT: true; the input reads as it did. -/
def treeAtSpec : ChangeSpec := { name := "treeAt", fn := fun _ => fun
  | [d1, d2] => { results := [.lit (.bool true)], args := [d1, d2] }
  | _ => none }
def treeAtRow : OpenClaim := { program := "ytkmdfaodbiknlaa", sum := "edec5ac66523e44493e25b4b80d2d9637b8ed2e8e8f43794093c79d1bec75ad0", func := "damier/damierlaw09.TreeAt", spec := "treeAt", recurses := true, apart := false }
def TreeAtSaid : Prop := treeAtRow.holds Try.pinned (OpenSpec.ofChange treeAtSpec)

/-- ITS FALSE NEIGHBOUR: 'it returns false'. Refute it at one input. -/
def treeAtWrong : ChangeSpec := { name := "treeAt", fn := fun _ => fun
  | [d1, d2] => { results := [.lit (.bool false)], args := [d1, d2] }
  | _ => none }
def TreeAtWrongFalsely : Prop := treeAtRow.holds Try.pinned (OpenSpec.ofChange treeAtWrong)

/-- 'damierlaw09.TreeJoins': WHATEVER THE INPUT: true; the input reads as it did. -/
def treeJoinsSpec : ChangeSpec := { name := "treeJoins", fn := fun _ => fun
  | [d1, d2, d3] => { results := [.lit (.bool true)], args := [d1, d2, d3] }
  | _ => none }
def treeJoinsRow : OpenClaim := { program := "ytkmdfaodbiknlaa", sum := "edec5ac66523e44493e25b4b80d2d9637b8ed2e8e8f43794093c79d1bec75ad0", func := "damier/damierlaw09.TreeJoins", spec := "treeJoins", recurses := true, apart := false }
def TreeJoinsSaid : Prop := treeJoinsRow.holds Try.pinned (OpenSpec.ofChange treeJoinsSpec)

/-- ITS FALSE NEIGHBOUR: 'it returns false'. Refute it at one input. -/
def treeJoinsWrong : ChangeSpec := { name := "treeJoins", fn := fun _ => fun
  | [d1, d2, d3] => { results := [.lit (.bool false)], args := [d1, d2, d3] }
  | _ => none }
def TreeJoinsWrongFalsely : Prop := treeJoinsRow.holds Try.pinned (OpenSpec.ofChange treeJoinsWrong)

/-- 'damierlaw10.WalkCuts': WHATEVER THE INPUT: true; the input reads as it did. -/
def walkCutsSpec : ChangeSpec := { name := "walkCuts", fn := fun _ => fun
  | [d1, d2, d3] => { results := [.lit (.bool true)], args := [d1, d2, d3] }
  | _ => none }
def walkCutsRow : OpenClaim := { program := "ytkmdfaodbiknlaa", sum := "edec5ac66523e44493e25b4b80d2d9637b8ed2e8e8f43794093c79d1bec75ad0", func := "damier/damierlaw10.WalkCuts", spec := "walkCuts", unfollowed := true, recurses := true, apart := false }
def WalkCutsSaid : Prop := walkCutsRow.holds Try.pinned (OpenSpec.ofChange walkCutsSpec)

/-- ITS FALSE NEIGHBOUR: 'it returns false'. Refute it at one input. -/
def walkCutsWrong : ChangeSpec := { name := "walkCuts", fn := fun _ => fun
  | [d1, d2, d3] => { results := [.lit (.bool false)], args := [d1, d2, d3] }
  | _ => none }
def WalkCutsWrongFalsely : Prop := walkCutsRow.holds Try.pinned (OpenSpec.ofChange walkCutsWrong)

/-- 'damierlaw10.WalkBack': WHATEVER THE INPUT: true; the input reads as it did. -/
def walkBackSpec : ChangeSpec := { name := "walkBack", fn := fun _ => fun
  | [d1, d2] => { results := [.lit (.bool true)], args := [d1, d2] }
  | _ => none }
def walkBackRow : OpenClaim := { program := "ytkmdfaodbiknlaa", sum := "edec5ac66523e44493e25b4b80d2d9637b8ed2e8e8f43794093c79d1bec75ad0", func := "damier/damierlaw10.WalkBack", spec := "walkBack", unfollowed := true, recurses := true, apart := false }
def WalkBackSaid : Prop := walkBackRow.holds Try.pinned (OpenSpec.ofChange walkBackSpec)

/-- ITS FALSE NEIGHBOUR: 'it returns false'. Refute it at one input. -/
def walkBackWrong : ChangeSpec := { name := "walkBack", fn := fun _ => fun
  | [d1, d2] => { results := [.lit (.bool false)], args := [d1, d2] }
  | _ => none }
def WalkBackWrongFalsely : Prop := walkBackRow.holds Try.pinned (OpenSpec.ofChange walkBackWrong)

/-- 'damierlaw10.WalkMaps': WHATEVER THE INPUT: true; the input reads as it did. -/
def walkMapsSpec : ChangeSpec := { name := "walkMaps", fn := fun _ => fun
  | [d1, d2, d3] => { results := [.lit (.bool true)], args := [d1, d2, d3] }
  | _ => none }
def walkMapsRow : OpenClaim := { program := "ytkmdfaodbiknlaa", sum := "edec5ac66523e44493e25b4b80d2d9637b8ed2e8e8f43794093c79d1bec75ad0", func := "damier/damierlaw10.WalkMaps", spec := "walkMaps", unfollowed := true, recurses := true, apart := false }
def WalkMapsSaid : Prop := walkMapsRow.holds Try.pinned (OpenSpec.ofChange walkMapsSpec)

/-- ITS FALSE NEIGHBOUR: 'it returns false'. Refute it at one input. -/
def walkMapsWrong : ChangeSpec := { name := "walkMaps", fn := fun _ => fun
  | [d1, d2, d3] => { results := [.lit (.bool false)], args := [d1, d2, d3] }
  | _ => none }
def WalkMapsWrongFalsely : Prop := walkMapsRow.holds Try.pinned (OpenSpec.ofChange walkMapsWrong)

/-- 'damierlaw10.WalkGoes': WHATEVER THE INPUT: true; the input reads as it did. -/
def walkGoesSpec : ChangeSpec := { name := "walkGoes", fn := fun _ => fun
  | [d1, d2, d3] => { results := [.lit (.bool true)], args := [d1, d2, d3] }
  | _ => none }
def walkGoesRow : OpenClaim := { program := "ytkmdfaodbiknlaa", sum := "edec5ac66523e44493e25b4b80d2d9637b8ed2e8e8f43794093c79d1bec75ad0", func := "damier/damierlaw10.WalkGoes", spec := "walkGoes", unfollowed := true, recurses := true, apart := false }
def WalkGoesSaid : Prop := walkGoesRow.holds Try.pinned (OpenSpec.ofChange walkGoesSpec)

/-- ITS FALSE NEIGHBOUR: 'it returns false'. Refute it at one input. -/
def walkGoesWrong : ChangeSpec := { name := "walkGoes", fn := fun _ => fun
  | [d1, d2, d3] => { results := [.lit (.bool false)], args := [d1, d2, d3] }
  | _ => none }
def WalkGoesWrongFalsely : Prop := walkGoesRow.holds Try.pinned (OpenSpec.ofChange walkGoesWrong)

/- THE SECOND FORM. 'bulk': how many values and letters a reading holds, each counted each time it is reached (what is shared counts as often as it is met; a slice's spare places count too). A statement '..UptoSaid' is the law's where the arguments, and the package variables that the reading takes, are together of bulk at most 1048576: NARROWER than '..Said'. Prove '..Said' where nothing that the law and all that it calls make is longer than what came in: it says more and counts as full. Else prove '..UptoSaid'. A law counts once. -/
mutual
def uptoBulk {H : Type} : DataW H → Nat
  | .lit (.string bytes) => bytes.length + 1
  | .lit _ => 1
  | .nil => 1
  | .ptr d => uptoBulk d + 1
  | .slice elems spare => uptoBulkAll elems + uptoBulkAll spare + 1
  | .agg parts => uptoBulkAll parts + 1
  | .iface _ d => uptoBulk d + 1
  | .map entries => uptoBulkEntries entries + 1
  | .held _ => 1
def uptoBulkAll {H : Type} : List (DataW H) → Nat
  | [] => 0
  | d :: r => uptoBulk d + uptoBulkAll r
def uptoBulkEntries {H : Type} : List (Lit × DataW H) → Nat
  | [] => 0
  | x :: r => uptoBulkEntry x + uptoBulkEntries r
def uptoBulkEntry {H : Type} : Lit × DataW H → Nat
  | (.string bytes, d) => bytes.length + uptoBulk d + 1
  | (_, d) => uptoBulk d + 1
 end
def uptoSmall : (H : Type) → List (DataW H) → Bool := fun _ ds => decide (uptoBulkAll ds ≤ 1048576)
def OpenSpec.upto (s : _root_.Go.ChangeSpec) : _root_.Go.OpenSpec := { _root_.Go.OpenSpec.ofChange s with cond := some uptoSmall }

/-- 'damierlaw09.TreePlays', WHERE WHAT IT READS IS OF BULK AT MOST 1048576: true; the input reads as it did. -/
def treePlaysUptoRow : OpenClaim := { program := "ytkmdfaodbiknlaa", sum := "edec5ac66523e44493e25b4b80d2d9637b8ed2e8e8f43794093c79d1bec75ad0", func := "damier/damierlaw09.TreePlays", spec := "treePlays", recurses := true, apart := false, narrowed := true }
def TreePlaysUptoSaid : Prop := treePlaysUptoRow.holds Try.pinned (OpenSpec.upto treePlaysSpec)

/-- 'damierlaw09.TreeStays', WHERE WHAT IT READS IS OF BULK AT MOST 1048576: true; the input reads as it did. -/
def treeStaysUptoRow : OpenClaim := { program := "ytkmdfaodbiknlaa", sum := "edec5ac66523e44493e25b4b80d2d9637b8ed2e8e8f43794093c79d1bec75ad0", func := "damier/damierlaw09.TreeStays", spec := "treeStays", recurses := true, apart := false, narrowed := true }
def TreeStaysUptoSaid : Prop := treeStaysUptoRow.holds Try.pinned (OpenSpec.upto treeStaysSpec)

/-- 'damierlaw09.TreeAt', WHERE WHAT IT READS IS OF BULK AT MOST 1048576: true; the input reads as it did. -/
def treeAtUptoRow : OpenClaim := { program := "ytkmdfaodbiknlaa", sum := "edec5ac66523e44493e25b4b80d2d9637b8ed2e8e8f43794093c79d1bec75ad0", func := "damier/damierlaw09.TreeAt", spec := "treeAt", recurses := true, apart := false, narrowed := true }
def TreeAtUptoSaid : Prop := treeAtUptoRow.holds Try.pinned (OpenSpec.upto treeAtSpec)

/-- 'damierlaw09.TreeJoins', WHERE WHAT IT READS IS OF BULK AT MOST 1048576: true; the input reads as it did. -/
def treeJoinsUptoRow : OpenClaim := { program := "ytkmdfaodbiknlaa", sum := "edec5ac66523e44493e25b4b80d2d9637b8ed2e8e8f43794093c79d1bec75ad0", func := "damier/damierlaw09.TreeJoins", spec := "treeJoins", recurses := true, apart := false, narrowed := true }
def TreeJoinsUptoSaid : Prop := treeJoinsUptoRow.holds Try.pinned (OpenSpec.upto treeJoinsSpec)

/-- 'damierlaw10.WalkCuts', WHERE WHAT IT READS IS OF BULK AT MOST 1048576: true; the input reads as it did. -/
def walkCutsUptoRow : OpenClaim := { program := "ytkmdfaodbiknlaa", sum := "edec5ac66523e44493e25b4b80d2d9637b8ed2e8e8f43794093c79d1bec75ad0", func := "damier/damierlaw10.WalkCuts", spec := "walkCuts", unfollowed := true, recurses := true, apart := false, narrowed := true }
def WalkCutsUptoSaid : Prop := walkCutsUptoRow.holds Try.pinned (OpenSpec.upto walkCutsSpec)

/-- 'damierlaw10.WalkBack', WHERE WHAT IT READS IS OF BULK AT MOST 1048576: true; the input reads as it did. -/
def walkBackUptoRow : OpenClaim := { program := "ytkmdfaodbiknlaa", sum := "edec5ac66523e44493e25b4b80d2d9637b8ed2e8e8f43794093c79d1bec75ad0", func := "damier/damierlaw10.WalkBack", spec := "walkBack", unfollowed := true, recurses := true, apart := false, narrowed := true }
def WalkBackUptoSaid : Prop := walkBackUptoRow.holds Try.pinned (OpenSpec.upto walkBackSpec)

/-- 'damierlaw10.WalkMaps', WHERE WHAT IT READS IS OF BULK AT MOST 1048576: true; the input reads as it did. -/
def walkMapsUptoRow : OpenClaim := { program := "ytkmdfaodbiknlaa", sum := "edec5ac66523e44493e25b4b80d2d9637b8ed2e8e8f43794093c79d1bec75ad0", func := "damier/damierlaw10.WalkMaps", spec := "walkMaps", unfollowed := true, recurses := true, apart := false, narrowed := true }
def WalkMapsUptoSaid : Prop := walkMapsUptoRow.holds Try.pinned (OpenSpec.upto walkMapsSpec)

/-- 'damierlaw10.WalkGoes', WHERE WHAT IT READS IS OF BULK AT MOST 1048576: true; the input reads as it did. -/
def walkGoesUptoRow : OpenClaim := { program := "ytkmdfaodbiknlaa", sum := "edec5ac66523e44493e25b4b80d2d9637b8ed2e8e8f43794093c79d1bec75ad0", func := "damier/damierlaw10.WalkGoes", spec := "walkGoes", unfollowed := true, recurses := true, apart := false, narrowed := true }
def WalkGoesUptoSaid : Prop := walkGoesUptoRow.holds Try.pinned (OpenSpec.upto walkGoesSpec)

end Rows
end Go.Proofs.Ytkmdfaodbiknlaa
