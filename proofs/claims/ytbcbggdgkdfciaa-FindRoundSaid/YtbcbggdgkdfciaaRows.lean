/-
  No cell of these rows narrows 'for every input' (looked for: loops, veiled, ifaces, maps, wideKeys, modest, calm, conditions, laid).
  DERIVED. THE GIVEN ROWS OF THIS SEAT. 8 by the template 'for every input the law returns true; each argument reads behind the call as it read before'; 0 by the template 'total and deterministic' (their statements: YtbcbggdgkdfciaaTotals.lean).
  GIVEN WITH THE SEED: the statements are not yours to turn. If you find one false, say at which input.
  Laid BY PROGRAM, IN A SANDBOX (cutbox-rows.mjs): the forced cells as the released guide's own fill.sh prints them over the translation 37ae814db7c787b9… (all of the seat's roots in one cut). By AI agents, Wed Nov 11 2026. No macro, syntax, notation, axiom, sorry.
-/
import Derived.Test.YtbcbggdgkdfciaaChecked
import GoSem.Claim
import GoSem.ClaimJoined
import GoSem.ClaimMapViews
import Derived.JoinedTies
import Derived.KernelRfl
namespace Go.Proofs.Ytbcbggdgkdfciaa
/- THE CELL 'sum', in the pinned program and in every row, IS THE sha256 OF THE DUMP (.gsa) THAT YtbcbggdgkdfciaaProg.lean LOADS. Nothing in Lean hashes anything: it is a label: what it is worth is what the hold of that sum in a sandbox is worth. -/
noncomputable def Try.pinned : Pinned := { name := "ytbcbggdgkdfciaa", sum := "37ae814db7c787b9bed0c9cf841264cc3cc480f517d945c964ca9bfe7f9ad510", checked := Try.checked }
namespace Rows
def none {H : Type} : Left H := { results := [], args := [] }

/-- 'damierlaw17.FindReplaces': WHATEVER THE INPUT: true; the input reads as it did. -/
def findReplacesSpec : ChangeSpec := { name := "findReplaces", fn := fun _ => fun
  | [d1, d2] => { results := [.lit (.bool true)], args := [d1, d2] }
  | _ => none }
def findReplacesRow : OpenClaim := { program := "ytbcbggdgkdfciaa", sum := "37ae814db7c787b9bed0c9cf841264cc3cc480f517d945c964ca9bfe7f9ad510", func := "damier/damierlaw17.FindReplaces", spec := "findReplaces", unfollowed := true, recurses := true, apart := false }
def FindReplacesSaid : Prop := findReplacesRow.holds Try.pinned (OpenSpec.ofChange findReplacesSpec)

/-- ITS FALSE NEIGHBOUR: 'it returns false'. Refute it at one input. -/
def findReplacesWrong : ChangeSpec := { name := "findReplaces", fn := fun _ => fun
  | [d1, d2] => { results := [.lit (.bool false)], args := [d1, d2] }
  | _ => none }
def FindReplacesWrongFalsely : Prop := findReplacesRow.holds Try.pinned (OpenSpec.ofChange findReplacesWrong)

/-- 'damierlaw17.FindPlaces': WHATEVER THE INPUT: true; the input reads as it did. -/
def findPlacesSpec : ChangeSpec := { name := "findPlaces", fn := fun _ => fun
  | [d1, d2, d3] => { results := [.lit (.bool true)], args := [d1, d2, d3] }
  | _ => none }
def findPlacesRow : OpenClaim := { program := "ytbcbggdgkdfciaa", sum := "37ae814db7c787b9bed0c9cf841264cc3cc480f517d945c964ca9bfe7f9ad510", func := "damier/damierlaw17.FindPlaces", spec := "findPlaces", unfollowed := true, recurses := true, apart := false }
def FindPlacesSaid : Prop := findPlacesRow.holds Try.pinned (OpenSpec.ofChange findPlacesSpec)

/-- ITS FALSE NEIGHBOUR: 'it returns false'. Refute it at one input. -/
def findPlacesWrong : ChangeSpec := { name := "findPlaces", fn := fun _ => fun
  | [d1, d2, d3] => { results := [.lit (.bool false)], args := [d1, d2, d3] }
  | _ => none }
def FindPlacesWrongFalsely : Prop := findPlacesRow.holds Try.pinned (OpenSpec.ofChange findPlacesWrong)

/-- 'damierlaw08.RowLoads': WHATEVER THE INPUT: true; the input reads as it did. -/
def rowLoadsSpec : ChangeSpec := { name := "rowLoads", fn := fun _ => fun
  | [d] => { results := [.lit (.bool true)], args := [d] }
  | _ => none }
def rowLoadsRow : OpenClaim := { program := "ytbcbggdgkdfciaa", sum := "37ae814db7c787b9bed0c9cf841264cc3cc480f517d945c964ca9bfe7f9ad510", func := "damier/damierlaw08.RowLoads", spec := "rowLoads", inPlace := ["internal/bytealg.IndexByte", "internal/bytealg.Index"], named := ["internal/bytealg.MaxLen"], apart := false }
def RowLoadsSaid : Prop := rowLoadsRow.holds Try.pinned (OpenSpec.ofChange rowLoadsSpec)

/-- ITS FALSE NEIGHBOUR: 'it returns false'. Refute it at one input. -/
def rowLoadsWrong : ChangeSpec := { name := "rowLoads", fn := fun _ => fun
  | [d] => { results := [.lit (.bool false)], args := [d] }
  | _ => none }
def RowLoadsWrongFalsely : Prop := rowLoadsRow.holds Try.pinned (OpenSpec.ofChange rowLoadsWrong)

/-- 'damierlaw08.RowSame': WHATEVER THE INPUT: true; the input reads as it did. -/
def rowSameSpec : ChangeSpec := { name := "rowSame", fn := fun _ => fun
  | [d1, d2, d3] => { results := [.lit (.bool true)], args := [d1, d2, d3] }
  | _ => none }
def rowSameRow : OpenClaim := { program := "ytbcbggdgkdfciaa", sum := "37ae814db7c787b9bed0c9cf841264cc3cc480f517d945c964ca9bfe7f9ad510", func := "damier/damierlaw08.RowSame", spec := "rowSame", inPlace := ["internal/bytealg.IndexByte", "internal/bytealg.Index"], unfollowed := true, recurses := true, named := ["internal/bytealg.MaxLen"], apart := false }
def RowSameSaid : Prop := rowSameRow.holds Try.pinned (OpenSpec.ofChange rowSameSpec)

/-- ITS FALSE NEIGHBOUR: 'it returns false'. Refute it at one input. -/
def rowSameWrong : ChangeSpec := { name := "rowSame", fn := fun _ => fun
  | [d1, d2, d3] => { results := [.lit (.bool false)], args := [d1, d2, d3] }
  | _ => none }
def RowSameWrongFalsely : Prop := rowSameRow.holds Try.pinned (OpenSpec.ofChange rowSameWrong)

/-- 'damierlaw30.LineTypes': WHATEVER THE INPUT: true; the input reads as it did. -/
def lineTypesSpec : ChangeSpec := { name := "lineTypes", fn := fun _ => fun
  | [d1, d2, d3] => { results := [.lit (.bool true)], args := [d1, d2, d3] }
  | _ => none }
def lineTypesRow : OpenClaim := { program := "ytbcbggdgkdfciaa", sum := "37ae814db7c787b9bed0c9cf841264cc3cc480f517d945c964ca9bfe7f9ad510", func := "damier/damierlaw30.LineTypes", spec := "lineTypes", inPlace := ["internal/bytealg.IndexByte", "internal/bytealg.Index"], unfollowed := true, recurses := true, named := ["internal/bytealg.MaxLen"], apart := false }
def LineTypesSaid : Prop := lineTypesRow.holds Try.pinned (OpenSpec.ofChange lineTypesSpec)

/-- ITS FALSE NEIGHBOUR: 'it returns false'. Refute it at one input. -/
def lineTypesWrong : ChangeSpec := { name := "lineTypes", fn := fun _ => fun
  | [d1, d2, d3] => { results := [.lit (.bool false)], args := [d1, d2, d3] }
  | _ => none }
def LineTypesWrongFalsely : Prop := lineTypesRow.holds Try.pinned (OpenSpec.ofChange lineTypesWrong)

/-- 'damierlaw08.RowPlays': WHATEVER THE INPUT: true; the input reads as it did. -/
def rowPlaysSpec : ChangeSpec := { name := "rowPlays", fn := fun _ => fun
  | [d1, d2, d3] => { results := [.lit (.bool true)], args := [d1, d2, d3] }
  | _ => none }
def rowPlaysRow : OpenClaim := { program := "ytbcbggdgkdfciaa", sum := "37ae814db7c787b9bed0c9cf841264cc3cc480f517d945c964ca9bfe7f9ad510", func := "damier/damierlaw08.RowPlays", spec := "rowPlays", inPlace := ["internal/bytealg.IndexByte", "internal/bytealg.Index"], named := ["internal/bytealg.MaxLen"], apart := false }
def RowPlaysSaid : Prop := rowPlaysRow.holds Try.pinned (OpenSpec.ofChange rowPlaysSpec)

/-- ITS FALSE NEIGHBOUR: 'it returns false'. Refute it at one input. -/
def rowPlaysWrong : ChangeSpec := { name := "rowPlays", fn := fun _ => fun
  | [d1, d2, d3] => { results := [.lit (.bool false)], args := [d1, d2, d3] }
  | _ => none }
def RowPlaysWrongFalsely : Prop := rowPlaysRow.holds Try.pinned (OpenSpec.ofChange rowPlaysWrong)

/-- 'damierlaw17.FindRound': WHATEVER THE INPUT: true; the input reads as it did. -/
def findRoundSpec : ChangeSpec := { name := "findRound", fn := fun _ => fun
  | [d1, d2, d3] => { results := [.lit (.bool true)], args := [d1, d2, d3] }
  | _ => none }
def findRoundRow : OpenClaim := { program := "ytbcbggdgkdfciaa", sum := "37ae814db7c787b9bed0c9cf841264cc3cc480f517d945c964ca9bfe7f9ad510", func := "damier/damierlaw17.FindRound", spec := "findRound", unfollowed := true, recurses := true, apart := false }
def FindRoundSaid : Prop := findRoundRow.holds Try.pinned (OpenSpec.ofChange findRoundSpec)

/-- ITS FALSE NEIGHBOUR: 'it returns false'. Refute it at one input. -/
def findRoundWrong : ChangeSpec := { name := "findRound", fn := fun _ => fun
  | [d1, d2, d3] => { results := [.lit (.bool false)], args := [d1, d2, d3] }
  | _ => none }
def FindRoundWrongFalsely : Prop := findRoundRow.holds Try.pinned (OpenSpec.ofChange findRoundWrong)

/-- 'damierlaw08.RowBack': WHATEVER THE INPUT: true; the input reads as it did. -/
def rowBackSpec : ChangeSpec := { name := "rowBack", fn := fun _ => fun
  | [d1, d2, d3] => { results := [.lit (.bool true)], args := [d1, d2, d3] }
  | _ => none }
def rowBackRow : OpenClaim := { program := "ytbcbggdgkdfciaa", sum := "37ae814db7c787b9bed0c9cf841264cc3cc480f517d945c964ca9bfe7f9ad510", func := "damier/damierlaw08.RowBack", spec := "rowBack", inPlace := ["internal/bytealg.IndexByte", "internal/bytealg.Index"], unfollowed := true, recurses := true, named := ["internal/bytealg.MaxLen"], apart := false }
def RowBackSaid : Prop := rowBackRow.holds Try.pinned (OpenSpec.ofChange rowBackSpec)

/-- ITS FALSE NEIGHBOUR: 'it returns false'. Refute it at one input. -/
def rowBackWrong : ChangeSpec := { name := "rowBack", fn := fun _ => fun
  | [d1, d2, d3] => { results := [.lit (.bool false)], args := [d1, d2, d3] }
  | _ => none }
def RowBackWrongFalsely : Prop := rowBackRow.holds Try.pinned (OpenSpec.ofChange rowBackWrong)

/- THE SECOND FORM. 'bulk': how many values and letters a reading holds, each counted each time it is reached (what is shared counts as often as it is met; a slice's spare places count too). A statement '..UptoSaid' is the law's where the arguments, and the package variables that the reading takes, are together of bulk at most 1048576: NARROWER than '..Said'. Prove '..Said' where nothing that the law and all that it calls make is longer than what came in: it says more and counts as full. Else prove '..UptoSaid'. A law counts once. -/
mutual
def uptoBulk {H : Type} : DataW H → Nat
  | .lit (.string bytes) => bytes.length + 1
  | .lit _ => 1
  | .nil => 1
  | .ptr d => uptoBulk d + 1
  | .slice elems spare => uptoBulkAll elems + uptoBulkAll spare + 1
  | .agg parts => uptoBulkAll parts + 1
  | .iface _ d => uptoBulk d + 1
  | .map entries => uptoBulkEntries entries + 1
  | .held _ => 1
def uptoBulkAll {H : Type} : List (DataW H) → Nat
  | [] => 0
  | d :: r => uptoBulk d + uptoBulkAll r
def uptoBulkEntries {H : Type} : List (Lit × DataW H) → Nat
  | [] => 0
  | x :: r => uptoBulkEntry x + uptoBulkEntries r
def uptoBulkEntry {H : Type} : Lit × DataW H → Nat
  | (.string bytes, d) => bytes.length + uptoBulk d + 1
  | (_, d) => uptoBulk d + 1
 end
def uptoSmall : (H : Type) → List (DataW H) → Bool := fun _ ds => decide (uptoBulkAll ds ≤ 1048576)
def OpenSpec.upto (s : _root_.Go.ChangeSpec) : _root_.Go.OpenSpec := { _root_.Go.OpenSpec.ofChange s with cond := some uptoSmall }

/-- 'damierlaw17.FindReplaces', WHERE WHAT IT READS IS OF BULK AT MOST 1048576: true; the input reads as it did. -/
def findReplacesUptoRow : OpenClaim := { program := "ytbcbggdgkdfciaa", sum := "37ae814db7c787b9bed0c9cf841264cc3cc480f517d945c964ca9bfe7f9ad510", func := "damier/damierlaw17.FindReplaces", spec := "findReplaces", unfollowed := true, recurses := true, apart := false, narrowed := true }
def FindReplacesUptoSaid : Prop := findReplacesUptoRow.holds Try.pinned (OpenSpec.upto findReplacesSpec)

/-- 'damierlaw17.FindPlaces', WHERE WHAT IT READS IS OF BULK AT MOST 1048576: true; the input reads as it did. -/
def findPlacesUptoRow : OpenClaim := { program := "ytbcbggdgkdfciaa", sum := "37ae814db7c787b9bed0c9cf841264cc3cc480f517d945c964ca9bfe7f9ad510", func := "damier/damierlaw17.FindPlaces", spec := "findPlaces", unfollowed := true, recurses := true, apart := false, narrowed := true }
def FindPlacesUptoSaid : Prop := findPlacesUptoRow.holds Try.pinned (OpenSpec.upto findPlacesSpec)

/-- 'damierlaw08.RowLoads', WHERE WHAT IT READS IS OF BULK AT MOST 1048576: true; the input reads as it did. -/
def rowLoadsUptoRow : OpenClaim := { program := "ytbcbggdgkdfciaa", sum := "37ae814db7c787b9bed0c9cf841264cc3cc480f517d945c964ca9bfe7f9ad510", func := "damier/damierlaw08.RowLoads", spec := "rowLoads", inPlace := ["internal/bytealg.IndexByte", "internal/bytealg.Index"], named := ["internal/bytealg.MaxLen"], apart := false, narrowed := true }
def RowLoadsUptoSaid : Prop := rowLoadsUptoRow.holds Try.pinned (OpenSpec.upto rowLoadsSpec)

/-- 'damierlaw08.RowSame', WHERE WHAT IT READS IS OF BULK AT MOST 1048576: true; the input reads as it did. -/
def rowSameUptoRow : OpenClaim := { program := "ytbcbggdgkdfciaa", sum := "37ae814db7c787b9bed0c9cf841264cc3cc480f517d945c964ca9bfe7f9ad510", func := "damier/damierlaw08.RowSame", spec := "rowSame", inPlace := ["internal/bytealg.IndexByte", "internal/bytealg.Index"], unfollowed := true, recurses := true, named := ["internal/bytealg.MaxLen"], apart := false, narrowed := true }
def RowSameUptoSaid : Prop := rowSameUptoRow.holds Try.pinned (OpenSpec.upto rowSameSpec)

/-- 'damierlaw30.LineTypes', WHERE WHAT IT READS IS OF BULK AT MOST 1048576: true; the input reads as it did. -/
def lineTypesUptoRow : OpenClaim := { program := "ytbcbggdgkdfciaa", sum := "37ae814db7c787b9bed0c9cf841264cc3cc480f517d945c964ca9bfe7f9ad510", func := "damier/damierlaw30.LineTypes", spec := "lineTypes", inPlace := ["internal/bytealg.IndexByte", "internal/bytealg.Index"], unfollowed := true, recurses := true, named := ["internal/bytealg.MaxLen"], apart := false, narrowed := true }
def LineTypesUptoSaid : Prop := lineTypesUptoRow.holds Try.pinned (OpenSpec.upto lineTypesSpec)

/-- 'damierlaw08.RowPlays', WHERE WHAT IT READS IS OF BULK AT MOST 1048576: true; the input reads as it did. -/
def rowPlaysUptoRow : OpenClaim := { program := "ytbcbggdgkdfciaa", sum := "37ae814db7c787b9bed0c9cf841264cc3cc480f517d945c964ca9bfe7f9ad510", func := "damier/damierlaw08.RowPlays", spec := "rowPlays", inPlace := ["internal/bytealg.IndexByte", "internal/bytealg.Index"], named := ["internal/bytealg.MaxLen"], apart := false, narrowed := true }
def RowPlaysUptoSaid : Prop := rowPlaysUptoRow.holds Try.pinned (OpenSpec.upto rowPlaysSpec)

/-- 'damierlaw17.FindRound', WHERE WHAT IT READS IS OF BULK AT MOST 1048576: true; the input reads as it did. -/
def findRoundUptoRow : OpenClaim := { program := "ytbcbggdgkdfciaa", sum := "37ae814db7c787b9bed0c9cf841264cc3cc480f517d945c964ca9bfe7f9ad510", func := "damier/damierlaw17.FindRound", spec := "findRound", unfollowed := true, recurses := true, apart := false, narrowed := true }
def FindRoundUptoSaid : Prop := findRoundUptoRow.holds Try.pinned (OpenSpec.upto findRoundSpec)

/-- 'damierlaw08.RowBack', WHERE WHAT IT READS IS OF BULK AT MOST 1048576: true; the input reads as it did. -/
def rowBackUptoRow : OpenClaim := { program := "ytbcbggdgkdfciaa", sum := "37ae814db7c787b9bed0c9cf841264cc3cc480f517d945c964ca9bfe7f9ad510", func := "damier/damierlaw08.RowBack", spec := "rowBack", inPlace := ["internal/bytealg.IndexByte", "internal/bytealg.Index"], unfollowed := true, recurses := true, named := ["internal/bytealg.MaxLen"], apart := false, narrowed := true }
def RowBackUptoSaid : Prop := rowBackUptoRow.holds Try.pinned (OpenSpec.upto rowBackSpec)

end Rows
end Go.Proofs.Ytbcbggdgkdfciaa
