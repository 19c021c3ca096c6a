/-
  No cell of these rows narrows 'for every input' (looked for: loops, veiled, ifaces, maps, wideKeys, modest, calm, conditions, laid).
  DERIVED. THE GIVEN ROWS OF THIS SEAT. 11 by the template 'for every input the law returns true; each argument reads behind the call as it read before'; 0 by the template 'total and deterministic' (their statements: YtbogkjbjgcclnaaTotals.lean).
  GIVEN WITH THE SEED: the statements are not yours to turn. If you find one false, say at which input.
  Laid BY PROGRAM, IN A SANDBOX (cutbox-rows.mjs): the forced cells as the released guide's own fill.sh prints them over the translation 54a225be60a8c1f5… (all of the seat's roots in one cut). By AI agents, Wed Nov 11 2026. No macro, syntax, notation, axiom, sorry.
-/
import Derived.Test.YtbogkjbjgcclnaaChecked
import GoSem.Claim
import GoSem.ClaimJoined
import GoSem.ClaimMapViews
import Derived.JoinedTies
import Derived.KernelRfl
namespace Go.Proofs.Ytbogkjbjgcclnaa
/- THE CELL 'sum', in the pinned program and in every row, IS THE sha256 OF THE DUMP (.gsa) THAT YtbogkjbjgcclnaaProg.lean LOADS. Nothing in Lean hashes anything: it is a label: what it is worth is what the hold of that sum in a sandbox is worth. -/
noncomputable def Try.pinned : Pinned := { name := "ytbogkjbjgcclnaa", sum := "54a225be60a8c1f53fc4779689ac8bd91b9d29b28bbac42de0777f67d06d9a01", checked := Try.checked }
namespace Rows
def none {H : Type} : Left H := { results := [], args := [] }

/-- 'damierlaw04.PieceOf': WHATEVER THE INPUT: true; the input reads as it did. -/
def pieceOfSpec : ChangeSpec := { name := "pieceOf", fn := fun _ => fun
  | [d1, d2] => { results := [.lit (.bool true)], args := [d1, d2] }
  | _ => none }
def pieceOfRow : OpenClaim := { program := "ytbogkjbjgcclnaa", sum := "54a225be60a8c1f53fc4779689ac8bd91b9d29b28bbac42de0777f67d06d9a01", func := "damier/damierlaw04.PieceOf", spec := "pieceOf", unfollowed := true, recurses := true, apart := false }
def PieceOfSaid : Prop := pieceOfRow.holds Try.pinned (OpenSpec.ofChange pieceOfSpec)

/-- ITS FALSE NEIGHBOUR: 'it returns false'. Refute it at one input. -/
def pieceOfWrong : ChangeSpec := { name := "pieceOf", fn := fun _ => fun
  | [d1, d2] => { results := [.lit (.bool false)], args := [d1, d2] }
  | _ => none }
def PieceOfWrongFalsely : Prop := pieceOfRow.holds Try.pinned (OpenSpec.ofChange pieceOfWrong)

/-- 'damierlaw04.PieceCuts': WHATEVER THE INPUT: true; the input reads as it did. -/
def pieceCutsSpec : ChangeSpec := { name := "pieceCuts", fn := fun _ => fun
  | [d1, d2, d3] => { results := [.lit (.bool true)], args := [d1, d2, d3] }
  | _ => none }
def pieceCutsRow : OpenClaim := { program := "ytbogkjbjgcclnaa", sum := "54a225be60a8c1f53fc4779689ac8bd91b9d29b28bbac42de0777f67d06d9a01", func := "damier/damierlaw04.PieceCuts", spec := "pieceCuts", unfollowed := true, recurses := true, apart := false }
def PieceCutsSaid : Prop := pieceCutsRow.holds Try.pinned (OpenSpec.ofChange pieceCutsSpec)

/-- ITS FALSE NEIGHBOUR: 'it returns false'. Refute it at one input. -/
def pieceCutsWrong : ChangeSpec := { name := "pieceCuts", fn := fun _ => fun
  | [d1, d2, d3] => { results := [.lit (.bool false)], args := [d1, d2, d3] }
  | _ => none }
def PieceCutsWrongFalsely : Prop := pieceCutsRow.holds Try.pinned (OpenSpec.ofChange pieceCutsWrong)

/-- 'damierlaw04.PieceBack': WHATEVER THE INPUT: true; the input reads as it did. -/
def pieceBackSpec : ChangeSpec := { name := "pieceBack", fn := fun _ => fun
  | [d1, d2, d3] => { results := [.lit (.bool true)], args := [d1, d2, d3] }
  | _ => none }
def pieceBackRow : OpenClaim := { program := "ytbogkjbjgcclnaa", sum := "54a225be60a8c1f53fc4779689ac8bd91b9d29b28bbac42de0777f67d06d9a01", func := "damier/damierlaw04.PieceBack", spec := "pieceBack", unfollowed := true, recurses := true, apart := false }
def PieceBackSaid : Prop := pieceBackRow.holds Try.pinned (OpenSpec.ofChange pieceBackSpec)

/-- ITS FALSE NEIGHBOUR: 'it returns false'. Refute it at one input. -/
def pieceBackWrong : ChangeSpec := { name := "pieceBack", fn := fun _ => fun
  | [d1, d2, d3] => { results := [.lit (.bool false)], args := [d1, d2, d3] }
  | _ => none }
def PieceBackWrongFalsely : Prop := pieceBackRow.holds Try.pinned (OpenSpec.ofChange pieceBackWrong)

/-- 'damierlaw01.UtfPuts': WHATEVER THE INPUT: true; the input reads as it did. -/
def utfPutsSpec : ChangeSpec := { name := "utfPuts", fn := fun _ => fun
  | [d] => { results := [.lit (.bool true)], args := [d] }
  | _ => none }
def utfPutsRow : OpenClaim := { program := "ytbogkjbjgcclnaa", sum := "54a225be60a8c1f53fc4779689ac8bd91b9d29b28bbac42de0777f67d06d9a01", func := "damier/damierlaw01.UtfPuts", spec := "utfPuts", apart := false }
def UtfPutsSaid : Prop := utfPutsRow.holds Try.pinned (OpenSpec.ofChange utfPutsSpec)

/-- ITS FALSE NEIGHBOUR: 'it returns false'. Refute it at one input. -/
def utfPutsWrong : ChangeSpec := { name := "utfPuts", fn := fun _ => fun
  | [d] => { results := [.lit (.bool false)], args := [d] }
  | _ => none }
def UtfPutsWrongFalsely : Prop := utfPutsRow.holds Try.pinned (OpenSpec.ofChange utfPutsWrong)

/-- 'damierlaw01.UtfCounts': WHATEVER THE INPUT: true; the input reads as it did. -/
def utfCountsSpec : ChangeSpec := { name := "utfCounts", fn := fun _ => fun
  | [d1, d2] => { results := [.lit (.bool true)], args := [d1, d2] }
  | _ => none }
def utfCountsRow : OpenClaim := { program := "ytbogkjbjgcclnaa", sum := "54a225be60a8c1f53fc4779689ac8bd91b9d29b28bbac42de0777f67d06d9a01", func := "damier/damierlaw01.UtfCounts", spec := "utfCounts", apart := false }
def UtfCountsSaid : Prop := utfCountsRow.holds Try.pinned (OpenSpec.ofChange utfCountsSpec)

/-- ITS FALSE NEIGHBOUR: 'it returns false'. Refute it at one input. -/
def utfCountsWrong : ChangeSpec := { name := "utfCounts", fn := fun _ => fun
  | [d1, d2] => { results := [.lit (.bool false)], args := [d1, d2] }
  | _ => none }
def UtfCountsWrongFalsely : Prop := utfCountsRow.holds Try.pinned (OpenSpec.ofChange utfCountsWrong)

/-- 'damierlaw01.UtfBetween': WHATEVER THE INPUT: true; the input reads as it did. -/
def utfBetweenSpec : ChangeSpec := { name := "utfBetween", fn := fun _ => fun
  | [d1, d2, d3] => { results := [.lit (.bool true)], args := [d1, d2, d3] }
  | _ => none }
def utfBetweenRow : OpenClaim := { program := "ytbogkjbjgcclnaa", sum := "54a225be60a8c1f53fc4779689ac8bd91b9d29b28bbac42de0777f67d06d9a01", func := "damier/damierlaw01.UtfBetween", spec := "utfBetween", apart := false }
def UtfBetweenSaid : Prop := utfBetweenRow.holds Try.pinned (OpenSpec.ofChange utfBetweenSpec)

/-- ITS FALSE NEIGHBOUR: 'it returns false'. Refute it at one input. -/
def utfBetweenWrong : ChangeSpec := { name := "utfBetween", fn := fun _ => fun
  | [d1, d2, d3] => { results := [.lit (.bool false)], args := [d1, d2, d3] }
  | _ => none }
def UtfBetweenWrongFalsely : Prop := utfBetweenRow.holds Try.pinned (OpenSpec.ofChange utfBetweenWrong)

/-- 'damierlaw01.UtfTells': WHATEVER THE INPUT: true; the input reads as it did. -/
def utfTellsSpec : ChangeSpec := { name := "utfTells", fn := fun _ => fun
  | [d1, d2] => { results := [.lit (.bool true)], args := [d1, d2] }
  | _ => none }
def utfTellsRow : OpenClaim := { program := "ytbogkjbjgcclnaa", sum := "54a225be60a8c1f53fc4779689ac8bd91b9d29b28bbac42de0777f67d06d9a01", func := "damier/damierlaw01.UtfTells", spec := "utfTells", apart := false }
def UtfTellsSaid : Prop := utfTellsRow.holds Try.pinned (OpenSpec.ofChange utfTellsSpec)

/-- ITS FALSE NEIGHBOUR: 'it returns false'. Refute it at one input. -/
def utfTellsWrong : ChangeSpec := { name := "utfTells", fn := fun _ => fun
  | [d1, d2] => { results := [.lit (.bool false)], args := [d1, d2] }
  | _ => none }
def UtfTellsWrongFalsely : Prop := utfTellsRow.holds Try.pinned (OpenSpec.ofChange utfTellsWrong)

/-- 'damierlaw05.ScanAll': WHATEVER THE INPUT: true; the input reads as it did. -/
def scanAllSpec : ChangeSpec := { name := "scanAll", fn := fun _ => fun
  | [d] => { results := [.lit (.bool true)], args := [d] }
  | _ => none }
def scanAllRow : OpenClaim := { program := "ytbogkjbjgcclnaa", sum := "54a225be60a8c1f53fc4779689ac8bd91b9d29b28bbac42de0777f67d06d9a01", func := "damier/damierlaw05.ScanAll", spec := "scanAll", apart := false }
def ScanAllSaid : Prop := scanAllRow.holds Try.pinned (OpenSpec.ofChange scanAllSpec)

/-- ITS FALSE NEIGHBOUR: 'it returns false'. Refute it at one input. -/
def scanAllWrong : ChangeSpec := { name := "scanAll", fn := fun _ => fun
  | [d] => { results := [.lit (.bool false)], args := [d] }
  | _ => none }
def ScanAllWrongFalsely : Prop := scanAllRow.holds Try.pinned (OpenSpec.ofChange scanAllWrong)

/-- 'damierlaw05.ScanWhole': WHATEVER THE INPUT: true; the input reads as it did. -/
def scanWholeSpec : ChangeSpec := { name := "scanWhole", fn := fun _ => fun
  | [d] => { results := [.lit (.bool true)], args := [d] }
  | _ => none }
def scanWholeRow : OpenClaim := { program := "ytbogkjbjgcclnaa", sum := "54a225be60a8c1f53fc4779689ac8bd91b9d29b28bbac42de0777f67d06d9a01", func := "damier/damierlaw05.ScanWhole", spec := "scanWhole", apart := false }
def ScanWholeSaid : Prop := scanWholeRow.holds Try.pinned (OpenSpec.ofChange scanWholeSpec)

/-- ITS FALSE NEIGHBOUR: 'it returns false'. Refute it at one input. -/
def scanWholeWrong : ChangeSpec := { name := "scanWhole", fn := fun _ => fun
  | [d] => { results := [.lit (.bool false)], args := [d] }
  | _ => none }
def ScanWholeWrongFalsely : Prop := scanWholeRow.holds Try.pinned (OpenSpec.ofChange scanWholeWrong)

/-- 'damierlaw05.ScanMarks': WHATEVER THE INPUT: true; the input reads as it did. -/
def scanMarksSpec : ChangeSpec := { name := "scanMarks", fn := fun _ => fun
  | [d1, d2, d3] => { results := [.lit (.bool true)], args := [d1, d2, d3] }
  | _ => none }
def scanMarksRow : OpenClaim := { program := "ytbogkjbjgcclnaa", sum := "54a225be60a8c1f53fc4779689ac8bd91b9d29b28bbac42de0777f67d06d9a01", func := "damier/damierlaw05.ScanMarks", spec := "scanMarks", apart := false }
def ScanMarksSaid : Prop := scanMarksRow.holds Try.pinned (OpenSpec.ofChange scanMarksSpec)

/-- ITS FALSE NEIGHBOUR: 'it returns false'. Refute it at one input. -/
def scanMarksWrong : ChangeSpec := { name := "scanMarks", fn := fun _ => fun
  | [d1, d2, d3] => { results := [.lit (.bool false)], args := [d1, d2, d3] }
  | _ => none }
def ScanMarksWrongFalsely : Prop := scanMarksRow.holds Try.pinned (OpenSpec.ofChange scanMarksWrong)

/-- 'damierlaw01.UtfParts': WHATEVER THE INPUT: true; the input reads as it did. -/
def utfPartsSpec : ChangeSpec := { name := "utfParts", fn := fun _ => fun
  | [d] => { results := [.lit (.bool true)], args := [d] }
  | _ => none }
def utfPartsRow : OpenClaim := { program := "ytbogkjbjgcclnaa", sum := "54a225be60a8c1f53fc4779689ac8bd91b9d29b28bbac42de0777f67d06d9a01", func := "damier/damierlaw01.UtfParts", spec := "utfParts", apart := false }
def UtfPartsSaid : Prop := utfPartsRow.holds Try.pinned (OpenSpec.ofChange utfPartsSpec)

/-- ITS FALSE NEIGHBOUR: 'it returns false'. Refute it at one input. -/
def utfPartsWrong : ChangeSpec := { name := "utfParts", fn := fun _ => fun
  | [d] => { results := [.lit (.bool false)], args := [d] }
  | _ => none }
def UtfPartsWrongFalsely : Prop := utfPartsRow.holds Try.pinned (OpenSpec.ofChange utfPartsWrong)

/- THE SECOND FORM. 'bulk': how many values and letters a reading holds, each counted each time it is reached (what is shared counts as often as it is met; a slice's spare places count too). A statement '..UptoSaid' is the law's where the arguments, and the package variables that the reading takes, are together of bulk at most 1048576: NARROWER than '..Said'. Prove '..Said' where nothing that the law and all that it calls make is longer than what came in: it says more and counts as full. Else prove '..UptoSaid'. A law counts once. -/
mutual
def uptoBulk {H : Type} : DataW H → Nat
  | .lit (.string bytes) => bytes.length + 1
  | .lit _ => 1
  | .nil => 1
  | .ptr d => uptoBulk d + 1
  | .slice elems spare => uptoBulkAll elems + uptoBulkAll spare + 1
  | .agg parts => uptoBulkAll parts + 1
  | .iface _ d => uptoBulk d + 1
  | .map entries => uptoBulkEntries entries + 1
  | .held _ => 1
def uptoBulkAll {H : Type} : List (DataW H) → Nat
  | [] => 0
  | d :: r => uptoBulk d + uptoBulkAll r
def uptoBulkEntries {H : Type} : List (Lit × DataW H) → Nat
  | [] => 0
  | x :: r => uptoBulkEntry x + uptoBulkEntries r
def uptoBulkEntry {H : Type} : Lit × DataW H → Nat
  | (.string bytes, d) => bytes.length + uptoBulk d + 1
  | (_, d) => uptoBulk d + 1
 end
def uptoSmall : (H : Type) → List (DataW H) → Bool := fun _ ds => decide (uptoBulkAll ds ≤ 1048576)
def OpenSpec.upto (s : _root_.Go.ChangeSpec) : _root_.Go.OpenSpec := { _root_.Go.OpenSpec.ofChange s with cond := some uptoSmall }

/-- 'damierlaw04.PieceOf', WHERE WHAT IT READS IS OF BULK AT MOST 1048576: true; the input reads as it did. -/
def pieceOfUptoRow : OpenClaim := { program := "ytbogkjbjgcclnaa", sum := "54a225be60a8c1f53fc4779689ac8bd91b9d29b28bbac42de0777f67d06d9a01", func := "damier/damierlaw04.PieceOf", spec := "pieceOf", unfollowed := true, recurses := true, apart := false, narrowed := true }
def PieceOfUptoSaid : Prop := pieceOfUptoRow.holds Try.pinned (OpenSpec.upto pieceOfSpec)

/-- 'damierlaw04.PieceCuts', WHERE WHAT IT READS IS OF BULK AT MOST 1048576: true; the input reads as it did. -/
def pieceCutsUptoRow : OpenClaim := { program := "ytbogkjbjgcclnaa", sum := "54a225be60a8c1f53fc4779689ac8bd91b9d29b28bbac42de0777f67d06d9a01", func := "damier/damierlaw04.PieceCuts", spec := "pieceCuts", unfollowed := true, recurses := true, apart := false, narrowed := true }
def PieceCutsUptoSaid : Prop := pieceCutsUptoRow.holds Try.pinned (OpenSpec.upto pieceCutsSpec)

/-- 'damierlaw04.PieceBack', WHERE WHAT IT READS IS OF BULK AT MOST 1048576: true; the input reads as it did. -/
def pieceBackUptoRow : OpenClaim := { program := "ytbogkjbjgcclnaa", sum := "54a225be60a8c1f53fc4779689ac8bd91b9d29b28bbac42de0777f67d06d9a01", func := "damier/damierlaw04.PieceBack", spec := "pieceBack", unfollowed := true, recurses := true, apart := false, narrowed := true }
def PieceBackUptoSaid : Prop := pieceBackUptoRow.holds Try.pinned (OpenSpec.upto pieceBackSpec)

/-- 'damierlaw01.UtfPuts', WHERE WHAT IT READS IS OF BULK AT MOST 1048576: true; the input reads as it did. -/
def utfPutsUptoRow : OpenClaim := { program := "ytbogkjbjgcclnaa", sum := "54a225be60a8c1f53fc4779689ac8bd91b9d29b28bbac42de0777f67d06d9a01", func := "damier/damierlaw01.UtfPuts", spec := "utfPuts", apart := false, narrowed := true }
def UtfPutsUptoSaid : Prop := utfPutsUptoRow.holds Try.pinned (OpenSpec.upto utfPutsSpec)

/-- 'damierlaw01.UtfCounts', WHERE WHAT IT READS IS OF BULK AT MOST 1048576: true; the input reads as it did. -/
def utfCountsUptoRow : OpenClaim := { program := "ytbogkjbjgcclnaa", sum := "54a225be60a8c1f53fc4779689ac8bd91b9d29b28bbac42de0777f67d06d9a01", func := "damier/damierlaw01.UtfCounts", spec := "utfCounts", apart := false, narrowed := true }
def UtfCountsUptoSaid : Prop := utfCountsUptoRow.holds Try.pinned (OpenSpec.upto utfCountsSpec)

/-- 'damierlaw01.UtfBetween', WHERE WHAT IT READS IS OF BULK AT MOST 1048576: true; the input reads as it did. -/
def utfBetweenUptoRow : OpenClaim := { program := "ytbogkjbjgcclnaa", sum := "54a225be60a8c1f53fc4779689ac8bd91b9d29b28bbac42de0777f67d06d9a01", func := "damier/damierlaw01.UtfBetween", spec := "utfBetween", apart := false, narrowed := true }
def UtfBetweenUptoSaid : Prop := utfBetweenUptoRow.holds Try.pinned (OpenSpec.upto utfBetweenSpec)

/-- 'damierlaw01.UtfTells', WHERE WHAT IT READS IS OF BULK AT MOST 1048576: true; the input reads as it did. -/
def utfTellsUptoRow : OpenClaim := { program := "ytbogkjbjgcclnaa", sum := "54a225be60a8c1f53fc4779689ac8bd91b9d29b28bbac42de0777f67d06d9a01", func := "damier/damierlaw01.UtfTells", spec := "utfTells", apart := false, narrowed := true }
def UtfTellsUptoSaid : Prop := utfTellsUptoRow.holds Try.pinned (OpenSpec.upto utfTellsSpec)

/-- 'damierlaw05.ScanAll', WHERE WHAT IT READS IS OF BULK AT MOST 1048576: true; the input reads as it did. -/
def scanAllUptoRow : OpenClaim := { program := "ytbogkjbjgcclnaa", sum := "54a225be60a8c1f53fc4779689ac8bd91b9d29b28bbac42de0777f67d06d9a01", func := "damier/damierlaw05.ScanAll", spec := "scanAll", apart := false, narrowed := true }
def ScanAllUptoSaid : Prop := scanAllUptoRow.holds Try.pinned (OpenSpec.upto scanAllSpec)

/-- 'damierlaw05.ScanWhole', WHERE WHAT IT READS IS OF BULK AT MOST 1048576: true; the input reads as it did. -/
def scanWholeUptoRow : OpenClaim := { program := "ytbogkjbjgcclnaa", sum := "54a225be60a8c1f53fc4779689ac8bd91b9d29b28bbac42de0777f67d06d9a01", func := "damier/damierlaw05.ScanWhole", spec := "scanWhole", apart := false, narrowed := true }
def ScanWholeUptoSaid : Prop := scanWholeUptoRow.holds Try.pinned (OpenSpec.upto scanWholeSpec)

/-- 'damierlaw05.ScanMarks', WHERE WHAT IT READS IS OF BULK AT MOST 1048576: true; the input reads as it did. -/
def scanMarksUptoRow : OpenClaim := { program := "ytbogkjbjgcclnaa", sum := "54a225be60a8c1f53fc4779689ac8bd91b9d29b28bbac42de0777f67d06d9a01", func := "damier/damierlaw05.ScanMarks", spec := "scanMarks", apart := false, narrowed := true }
def ScanMarksUptoSaid : Prop := scanMarksUptoRow.holds Try.pinned (OpenSpec.upto scanMarksSpec)

/-- 'damierlaw01.UtfParts', WHERE WHAT IT READS IS OF BULK AT MOST 1048576: true; the input reads as it did. -/
def utfPartsUptoRow : OpenClaim := { program := "ytbogkjbjgcclnaa", sum := "54a225be60a8c1f53fc4779689ac8bd91b9d29b28bbac42de0777f67d06d9a01", func := "damier/damierlaw01.UtfParts", spec := "utfParts", apart := false, narrowed := true }
def UtfPartsUptoSaid : Prop := utfPartsUptoRow.holds Try.pinned (OpenSpec.upto utfPartsSpec)

end Rows
end Go.Proofs.Ytbogkjbjgcclnaa
