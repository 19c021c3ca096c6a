/-
  No cell of these rows narrows 'for every input' (looked for: loops, veiled, ifaces, maps, wideKeys, modest, calm, conditions, laid).
  DERIVED. THE GIVEN ROWS OF THIS SEAT. 11 by the template 'for every input the law returns true; each argument reads behind the call as it read before'; 0 by the template 'total and deterministic' (their statements: YtpmhiiemklhbhaaGreatTotals.lean).
  GIVEN WITH THE SEED: the statements are not yours to turn. If you find one false, say at which input.
  Laid BY PROGRAM, IN A SANDBOX (cutbox-rows.mjs): the forced cells as the released guide's own fill.sh prints them over the translation c9010144882e0c68… (all of the seat's roots in one cut). By AI agents, Wed Nov 11 2026. No macro, syntax, notation, axiom, sorry.
-/
import Derived.Test.YtpmhiiemklhbhaaGreatChecked
import GoSem.Claim
import GoSem.ClaimJoined
import GoSem.ClaimMapViews
import Derived.JoinedTies
import Derived.KernelRfl
namespace Go.Proofs.YtpmhiiemklhbhaaGreat
/- THE CELL 'sum', in the pinned program and in every row, IS THE sha256 OF THE DUMP (.gsa) THAT YtpmhiiemklhbhaaGreatProg.lean LOADS. Nothing in Lean hashes anything: it is a label: what it is worth is what the hold of that sum in a sandbox is worth. -/
noncomputable def Tryz.pinned : Pinned := { name := "ytpmhiiemklhbhaagreat", sum := "c9010144882e0c680a983b33d97ed327f5b0ab0ca64d3f80ea4391d63ef40f7e", checked := Tryz.checked }
namespace Rows
def none {H : Type} : Left H := { results := [], args := [] }

/-- 'damierlaw12.ColsPlay': WHATEVER THE INPUT: true; the input reads as it did. -/
def colsPlaySpec : ChangeSpec := { name := "colsPlay", fn := fun _ => fun
  | [d1, d2] => { results := [.lit (.bool true)], args := [d1, d2] }
  | _ => none }
def colsPlayRow : OpenClaim := { program := "ytpmhiiemklhbhaagreat", sum := "c9010144882e0c680a983b33d97ed327f5b0ab0ca64d3f80ea4391d63ef40f7e", func := "damier/damierlaw12.ColsPlay", spec := "colsPlay", unfollowed := true, recurses := true, apart := false }
def ColsPlaySaid : Prop := colsPlayRow.holds Tryz.pinned (OpenSpec.ofChange colsPlaySpec)

/-- ITS FALSE NEIGHBOUR: 'it returns false'. Refute it at one input. -/
def colsPlayWrong : ChangeSpec := { name := "colsPlay", fn := fun _ => fun
  | [d1, d2] => { results := [.lit (.bool false)], args := [d1, d2] }
  | _ => none }
def ColsPlayWrongFalsely : Prop := colsPlayRow.holds Tryz.pinned (OpenSpec.ofChange colsPlayWrong)

/-- 'damierlaw12.ColsBounds': WHATEVER THE INPUT: true; the input reads as it did. -/
def colsBoundsSpec : ChangeSpec := { name := "colsBounds", fn := fun _ => fun
  | [d] => { results := [.lit (.bool true)], args := [d] }
  | _ => none }
def colsBoundsRow : OpenClaim := { program := "ytpmhiiemklhbhaagreat", sum := "c9010144882e0c680a983b33d97ed327f5b0ab0ca64d3f80ea4391d63ef40f7e", func := "damier/damierlaw12.ColsBounds", spec := "colsBounds", unfollowed := true, recurses := true, apart := false }
def ColsBoundsSaid : Prop := colsBoundsRow.holds Tryz.pinned (OpenSpec.ofChange colsBoundsSpec)

/-- ITS FALSE NEIGHBOUR: 'it returns false'. Refute it at one input. -/
def colsBoundsWrong : ChangeSpec := { name := "colsBounds", fn := fun _ => fun
  | [d] => { results := [.lit (.bool false)], args := [d] }
  | _ => none }
def ColsBoundsWrongFalsely : Prop := colsBoundsRow.holds Tryz.pinned (OpenSpec.ofChange colsBoundsWrong)

/-- 'damierlaw12.ColsBack': WHATEVER THE INPUT: true; the input reads as it did. -/
def colsBackSpec : ChangeSpec := { name := "colsBack", fn := fun _ => fun
  | [d1, d2, d3] => { results := [.lit (.bool true)], args := [d1, d2, d3] }
  | _ => none }
def colsBackRow : OpenClaim := { program := "ytpmhiiemklhbhaagreat", sum := "c9010144882e0c680a983b33d97ed327f5b0ab0ca64d3f80ea4391d63ef40f7e", func := "damier/damierlaw12.ColsBack", spec := "colsBack", unfollowed := true, recurses := true, apart := false }
def ColsBackSaid : Prop := colsBackRow.holds Tryz.pinned (OpenSpec.ofChange colsBackSpec)

/-- ITS FALSE NEIGHBOUR: 'it returns false'. Refute it at one input. -/
def colsBackWrong : ChangeSpec := { name := "colsBack", fn := fun _ => fun
  | [d1, d2, d3] => { results := [.lit (.bool false)], args := [d1, d2, d3] }
  | _ => none }
def ColsBackWrongFalsely : Prop := colsBackRow.holds Tryz.pinned (OpenSpec.ofChange colsBackWrong)

/-- 'damierlaw18.FilterTexts': WHATEVER THE INPUT: true; the input reads as it did. -/
def filterTextsSpec : ChangeSpec := { name := "filterTexts", fn := fun _ => fun
  | [d1, d2] => { results := [.lit (.bool true)], args := [d1, d2] }
  | _ => none }
def filterTextsRow : OpenClaim := { program := "ytpmhiiemklhbhaagreat", sum := "c9010144882e0c680a983b33d97ed327f5b0ab0ca64d3f80ea4391d63ef40f7e", func := "damier/damierlaw18.FilterTexts", spec := "filterTexts", inPlace := ["internal/bytealg.IndexByteString", "internal/bytealg.IndexString"], unfollowed := true, recurses := true, named := ["internal/bytealg.MaxLen"], apart := false }
def FilterTextsSaid : Prop := filterTextsRow.holds Tryz.pinned (OpenSpec.ofChange filterTextsSpec)

/-- ITS FALSE NEIGHBOUR: 'it returns false'. Refute it at one input. -/
def filterTextsWrong : ChangeSpec := { name := "filterTexts", fn := fun _ => fun
  | [d1, d2] => { results := [.lit (.bool false)], args := [d1, d2] }
  | _ => none }
def FilterTextsWrongFalsely : Prop := filterTextsRow.holds Tryz.pinned (OpenSpec.ofChange filterTextsWrong)

/-- 'damierlaw16.OrderPuts': WHATEVER THE INPUT: true; the input reads as it did. -/
def orderPutsSpec : ChangeSpec := { name := "orderPuts", fn := fun _ => fun
  | [d1, d2, d3] => { results := [.lit (.bool true)], args := [d1, d2, d3] }
  | _ => none }
def orderPutsRow : OpenClaim := { program := "ytpmhiiemklhbhaagreat", sum := "c9010144882e0c680a983b33d97ed327f5b0ab0ca64d3f80ea4391d63ef40f7e", func := "damier/damierlaw16.OrderPuts", spec := "orderPuts", unfollowed := true, recurses := true, apart := false }
def OrderPutsSaid : Prop := orderPutsRow.holds Tryz.pinned (OpenSpec.ofChange orderPutsSpec)

/-- ITS FALSE NEIGHBOUR: 'it returns false'. Refute it at one input. -/
def orderPutsWrong : ChangeSpec := { name := "orderPuts", fn := fun _ => fun
  | [d1, d2, d3] => { results := [.lit (.bool false)], args := [d1, d2, d3] }
  | _ => none }
def OrderPutsWrongFalsely : Prop := orderPutsRow.holds Tryz.pinned (OpenSpec.ofChange orderPutsWrong)

/-- 'damierlaw18.FilterHolds': WHATEVER THE INPUT: true; the input reads as it did. -/
def filterHoldsSpec : ChangeSpec := { name := "filterHolds", fn := fun _ => fun
  | [d1, d2] => { results := [.lit (.bool true)], args := [d1, d2] }
  | _ => none }
def filterHoldsRow : OpenClaim := { program := "ytpmhiiemklhbhaagreat", sum := "c9010144882e0c680a983b33d97ed327f5b0ab0ca64d3f80ea4391d63ef40f7e", func := "damier/damierlaw18.FilterHolds", spec := "filterHolds", inPlace := ["internal/bytealg.IndexByteString", "internal/bytealg.IndexString"], unfollowed := true, recurses := true, named := ["internal/bytealg.MaxLen"], apart := false }
def FilterHoldsSaid : Prop := filterHoldsRow.holds Tryz.pinned (OpenSpec.ofChange filterHoldsSpec)

/-- ITS FALSE NEIGHBOUR: 'it returns false'. Refute it at one input. -/
def filterHoldsWrong : ChangeSpec := { name := "filterHolds", fn := fun _ => fun
  | [d1, d2] => { results := [.lit (.bool false)], args := [d1, d2] }
  | _ => none }
def FilterHoldsWrongFalsely : Prop := filterHoldsRow.holds Tryz.pinned (OpenSpec.ofChange filterHoldsWrong)

/-- 'damierlaw18.FilterNarrows': WHATEVER THE INPUT: true; the input reads as it did. -/
def filterNarrowsSpec : ChangeSpec := { name := "filterNarrows", fn := fun _ => fun
  | [d1, d2, d3] => { results := [.lit (.bool true)], args := [d1, d2, d3] }
  | _ => none }
def filterNarrowsRow : OpenClaim := { program := "ytpmhiiemklhbhaagreat", sum := "c9010144882e0c680a983b33d97ed327f5b0ab0ca64d3f80ea4391d63ef40f7e", func := "damier/damierlaw18.FilterNarrows", spec := "filterNarrows", inPlace := ["internal/bytealg.IndexByteString", "internal/bytealg.IndexString"], unfollowed := true, recurses := true, named := ["internal/bytealg.MaxLen"], apart := false }
def FilterNarrowsSaid : Prop := filterNarrowsRow.holds Tryz.pinned (OpenSpec.ofChange filterNarrowsSpec)

/-- ITS FALSE NEIGHBOUR: 'it returns false'. Refute it at one input. -/
def filterNarrowsWrong : ChangeSpec := { name := "filterNarrows", fn := fun _ => fun
  | [d1, d2, d3] => { results := [.lit (.bool false)], args := [d1, d2, d3] }
  | _ => none }
def FilterNarrowsWrongFalsely : Prop := filterNarrowsRow.holds Tryz.pinned (OpenSpec.ofChange filterNarrowsWrong)

/-- 'damierlaw16.OrderKinds': WHATEVER THE INPUT: true; the input reads as it did. -/
def orderKindsSpec : ChangeSpec := { name := "orderKinds", fn := fun _ => fun
  | [d1, d2, d3] => { results := [.lit (.bool true)], args := [d1, d2, d3] }
  | _ => none }
def orderKindsRow : OpenClaim := { program := "ytpmhiiemklhbhaagreat", sum := "c9010144882e0c680a983b33d97ed327f5b0ab0ca64d3f80ea4391d63ef40f7e", func := "damier/damierlaw16.OrderKinds", spec := "orderKinds", unfollowed := true, recurses := true, apart := false }
def OrderKindsSaid : Prop := orderKindsRow.holds Tryz.pinned (OpenSpec.ofChange orderKindsSpec)

/-- ITS FALSE NEIGHBOUR: 'it returns false'. Refute it at one input. -/
def orderKindsWrong : ChangeSpec := { name := "orderKinds", fn := fun _ => fun
  | [d1, d2, d3] => { results := [.lit (.bool false)], args := [d1, d2, d3] }
  | _ => none }
def OrderKindsWrongFalsely : Prop := orderKindsRow.holds Tryz.pinned (OpenSpec.ofChange orderKindsWrong)

/-- 'damierlaw18.FilterShows': WHATEVER THE INPUT: true; the input reads as it did. -/
def filterShowsSpec : ChangeSpec := { name := "filterShows", fn := fun _ => fun
  | [d1, d2, d3] => { results := [.lit (.bool true)], args := [d1, d2, d3] }
  | _ => none }
def filterShowsRow : OpenClaim := { program := "ytpmhiiemklhbhaagreat", sum := "c9010144882e0c680a983b33d97ed327f5b0ab0ca64d3f80ea4391d63ef40f7e", func := "damier/damierlaw18.FilterShows", spec := "filterShows", inPlace := ["internal/bytealg.IndexByteString", "internal/bytealg.IndexString"], unfollowed := true, recurses := true, named := ["internal/bytealg.MaxLen"], apart := false }
def FilterShowsSaid : Prop := filterShowsRow.holds Tryz.pinned (OpenSpec.ofChange filterShowsSpec)

/-- ITS FALSE NEIGHBOUR: 'it returns false'. Refute it at one input. -/
def filterShowsWrong : ChangeSpec := { name := "filterShows", fn := fun _ => fun
  | [d1, d2, d3] => { results := [.lit (.bool false)], args := [d1, d2, d3] }
  | _ => none }
def FilterShowsWrongFalsely : Prop := filterShowsRow.holds Tryz.pinned (OpenSpec.ofChange filterShowsWrong)

/-- 'damierlaw16.OrderSorts': WHATEVER THE INPUT: true; the input reads as it did. -/
def orderSortsSpec : ChangeSpec := { name := "orderSorts", fn := fun _ => fun
  | [d1, d2, d3] => { results := [.lit (.bool true)], args := [d1, d2, d3] }
  | _ => none }
def orderSortsRow : OpenClaim := { program := "ytpmhiiemklhbhaagreat", sum := "c9010144882e0c680a983b33d97ed327f5b0ab0ca64d3f80ea4391d63ef40f7e", func := "damier/damierlaw16.OrderSorts", spec := "orderSorts", unfollowed := true, recurses := true, apart := false }
def OrderSortsSaid : Prop := orderSortsRow.holds Tryz.pinned (OpenSpec.ofChange orderSortsSpec)

/-- ITS FALSE NEIGHBOUR: 'it returns false'. Refute it at one input. -/
def orderSortsWrong : ChangeSpec := { name := "orderSorts", fn := fun _ => fun
  | [d1, d2, d3] => { results := [.lit (.bool false)], args := [d1, d2, d3] }
  | _ => none }
def OrderSortsWrongFalsely : Prop := orderSortsRow.holds Tryz.pinned (OpenSpec.ofChange orderSortsWrong)

/-- 'damierlaw16.OrderStays': WHATEVER THE INPUT: true; the input reads as it did. -/
def orderStaysSpec : ChangeSpec := { name := "orderStays", fn := fun _ => fun
  | [d1, d2, d3] => { results := [.lit (.bool true)], args := [d1, d2, d3] }
  | _ => none }
def orderStaysRow : OpenClaim := { program := "ytpmhiiemklhbhaagreat", sum := "c9010144882e0c680a983b33d97ed327f5b0ab0ca64d3f80ea4391d63ef40f7e", func := "damier/damierlaw16.OrderStays", spec := "orderStays", unfollowed := true, recurses := true, apart := false }
def OrderStaysSaid : Prop := orderStaysRow.holds Tryz.pinned (OpenSpec.ofChange orderStaysSpec)

/-- ITS FALSE NEIGHBOUR: 'it returns false'. Refute it at one input. -/
def orderStaysWrong : ChangeSpec := { name := "orderStays", fn := fun _ => fun
  | [d1, d2, d3] => { results := [.lit (.bool false)], args := [d1, d2, d3] }
  | _ => none }
def OrderStaysWrongFalsely : Prop := orderStaysRow.holds Tryz.pinned (OpenSpec.ofChange orderStaysWrong)

/- THE SECOND FORM. 'bulk': how many values and letters a reading holds, each counted each time it is reached (what is shared counts as often as it is met; a slice's spare places count too). A statement '..UptoSaid' is the law's where the arguments, and the package variables that the reading takes, are together of bulk at most 1048576: NARROWER than '..Said'. Prove '..Said' where nothing that the law and all that it calls make is longer than what came in: it says more and counts as full. Else prove '..UptoSaid'. A law counts once. -/
mutual
def uptoBulk {H : Type} : DataW H → Nat
  | .lit (.string bytes) => bytes.length + 1
  | .lit _ => 1
  | .nil => 1
  | .ptr d => uptoBulk d + 1
  | .slice elems spare => uptoBulkAll elems + uptoBulkAll spare + 1
  | .agg parts => uptoBulkAll parts + 1
  | .iface _ d => uptoBulk d + 1
  | .map entries => uptoBulkEntries entries + 1
  | .held _ => 1
def uptoBulkAll {H : Type} : List (DataW H) → Nat
  | [] => 0
  | d :: r => uptoBulk d + uptoBulkAll r
def uptoBulkEntries {H : Type} : List (Lit × DataW H) → Nat
  | [] => 0
  | x :: r => uptoBulkEntry x + uptoBulkEntries r
def uptoBulkEntry {H : Type} : Lit × DataW H → Nat
  | (.string bytes, d) => bytes.length + uptoBulk d + 1
  | (_, d) => uptoBulk d + 1
 end
def uptoSmall : (H : Type) → List (DataW H) → Bool := fun _ ds => decide (uptoBulkAll ds ≤ 1048576)
def OpenSpec.upto (s : _root_.Go.ChangeSpec) : _root_.Go.OpenSpec := { _root_.Go.OpenSpec.ofChange s with cond := some uptoSmall }

/-- 'damierlaw12.ColsPlay', WHERE WHAT IT READS IS OF BULK AT MOST 1048576: true; the input reads as it did. -/
def colsPlayUptoRow : OpenClaim := { program := "ytpmhiiemklhbhaagreat", sum := "c9010144882e0c680a983b33d97ed327f5b0ab0ca64d3f80ea4391d63ef40f7e", func := "damier/damierlaw12.ColsPlay", spec := "colsPlay", unfollowed := true, recurses := true, apart := false, narrowed := true }
def ColsPlayUptoSaid : Prop := colsPlayUptoRow.holds Tryz.pinned (OpenSpec.upto colsPlaySpec)

/-- 'damierlaw12.ColsBounds', WHERE WHAT IT READS IS OF BULK AT MOST 1048576: true; the input reads as it did. -/
def colsBoundsUptoRow : OpenClaim := { program := "ytpmhiiemklhbhaagreat", sum := "c9010144882e0c680a983b33d97ed327f5b0ab0ca64d3f80ea4391d63ef40f7e", func := "damier/damierlaw12.ColsBounds", spec := "colsBounds", unfollowed := true, recurses := true, apart := false, narrowed := true }
def ColsBoundsUptoSaid : Prop := colsBoundsUptoRow.holds Tryz.pinned (OpenSpec.upto colsBoundsSpec)

/-- 'damierlaw12.ColsBack', WHERE WHAT IT READS IS OF BULK AT MOST 1048576: true; the input reads as it did. -/
def colsBackUptoRow : OpenClaim := { program := "ytpmhiiemklhbhaagreat", sum := "c9010144882e0c680a983b33d97ed327f5b0ab0ca64d3f80ea4391d63ef40f7e", func := "damier/damierlaw12.ColsBack", spec := "colsBack", unfollowed := true, recurses := true, apart := false, narrowed := true }
def ColsBackUptoSaid : Prop := colsBackUptoRow.holds Tryz.pinned (OpenSpec.upto colsBackSpec)

/-- 'damierlaw18.FilterTexts', WHERE WHAT IT READS IS OF BULK AT MOST 1048576: true; the input reads as it did. -/
def filterTextsUptoRow : OpenClaim := { program := "ytpmhiiemklhbhaagreat", sum := "c9010144882e0c680a983b33d97ed327f5b0ab0ca64d3f80ea4391d63ef40f7e", func := "damier/damierlaw18.FilterTexts", spec := "filterTexts", inPlace := ["internal/bytealg.IndexByteString", "internal/bytealg.IndexString"], unfollowed := true, recurses := true, named := ["internal/bytealg.MaxLen"], apart := false, narrowed := true }
def FilterTextsUptoSaid : Prop := filterTextsUptoRow.holds Tryz.pinned (OpenSpec.upto filterTextsSpec)

/-- 'damierlaw16.OrderPuts', WHERE WHAT IT READS IS OF BULK AT MOST 1048576: true; the input reads as it did. -/
def orderPutsUptoRow : OpenClaim := { program := "ytpmhiiemklhbhaagreat", sum := "c9010144882e0c680a983b33d97ed327f5b0ab0ca64d3f80ea4391d63ef40f7e", func := "damier/damierlaw16.OrderPuts", spec := "orderPuts", unfollowed := true, recurses := true, apart := false, narrowed := true }
def OrderPutsUptoSaid : Prop := orderPutsUptoRow.holds Tryz.pinned (OpenSpec.upto orderPutsSpec)

/-- 'damierlaw18.FilterHolds', WHERE WHAT IT READS IS OF BULK AT MOST 1048576: true; the input reads as it did. -/
def filterHoldsUptoRow : OpenClaim := { program := "ytpmhiiemklhbhaagreat", sum := "c9010144882e0c680a983b33d97ed327f5b0ab0ca64d3f80ea4391d63ef40f7e", func := "damier/damierlaw18.FilterHolds", spec := "filterHolds", inPlace := ["internal/bytealg.IndexByteString", "internal/bytealg.IndexString"], unfollowed := true, recurses := true, named := ["internal/bytealg.MaxLen"], apart := false, narrowed := true }
def FilterHoldsUptoSaid : Prop := filterHoldsUptoRow.holds Tryz.pinned (OpenSpec.upto filterHoldsSpec)

/-- 'damierlaw18.FilterNarrows', WHERE WHAT IT READS IS OF BULK AT MOST 1048576: true; the input reads as it did. -/
def filterNarrowsUptoRow : OpenClaim := { program := "ytpmhiiemklhbhaagreat", sum := "c9010144882e0c680a983b33d97ed327f5b0ab0ca64d3f80ea4391d63ef40f7e", func := "damier/damierlaw18.FilterNarrows", spec := "filterNarrows", inPlace := ["internal/bytealg.IndexByteString", "internal/bytealg.IndexString"], unfollowed := true, recurses := true, named := ["internal/bytealg.MaxLen"], apart := false, narrowed := true }
def FilterNarrowsUptoSaid : Prop := filterNarrowsUptoRow.holds Tryz.pinned (OpenSpec.upto filterNarrowsSpec)

/-- 'damierlaw16.OrderKinds', WHERE WHAT IT READS IS OF BULK AT MOST 1048576: true; the input reads as it did. -/
def orderKindsUptoRow : OpenClaim := { program := "ytpmhiiemklhbhaagreat", sum := "c9010144882e0c680a983b33d97ed327f5b0ab0ca64d3f80ea4391d63ef40f7e", func := "damier/damierlaw16.OrderKinds", spec := "orderKinds", unfollowed := true, recurses := true, apart := false, narrowed := true }
def OrderKindsUptoSaid : Prop := orderKindsUptoRow.holds Tryz.pinned (OpenSpec.upto orderKindsSpec)

/-- 'damierlaw18.FilterShows', WHERE WHAT IT READS IS OF BULK AT MOST 1048576: true; the input reads as it did. -/
def filterShowsUptoRow : OpenClaim := { program := "ytpmhiiemklhbhaagreat", sum := "c9010144882e0c680a983b33d97ed327f5b0ab0ca64d3f80ea4391d63ef40f7e", func := "damier/damierlaw18.FilterShows", spec := "filterShows", inPlace := ["internal/bytealg.IndexByteString", "internal/bytealg.IndexString"], unfollowed := true, recurses := true, named := ["internal/bytealg.MaxLen"], apart := false, narrowed := true }
def FilterShowsUptoSaid : Prop := filterShowsUptoRow.holds Tryz.pinned (OpenSpec.upto filterShowsSpec)

/-- 'damierlaw16.OrderSorts', WHERE WHAT IT READS IS OF BULK AT MOST 1048576: true; the input reads as it did. -/
def orderSortsUptoRow : OpenClaim := { program := "ytpmhiiemklhbhaagreat", sum := "c9010144882e0c680a983b33d97ed327f5b0ab0ca64d3f80ea4391d63ef40f7e", func := "damier/damierlaw16.OrderSorts", spec := "orderSorts", unfollowed := true, recurses := true, apart := false, narrowed := true }
def OrderSortsUptoSaid : Prop := orderSortsUptoRow.holds Tryz.pinned (OpenSpec.upto orderSortsSpec)

/-- 'damierlaw16.OrderStays', WHERE WHAT IT READS IS OF BULK AT MOST 1048576: true; the input reads as it did. -/
def orderStaysUptoRow : OpenClaim := { program := "ytpmhiiemklhbhaagreat", sum := "c9010144882e0c680a983b33d97ed327f5b0ab0ca64d3f80ea4391d63ef40f7e", func := "damier/damierlaw16.OrderStays", spec := "orderStays", unfollowed := true, recurses := true, apart := false, narrowed := true }
def OrderStaysUptoSaid : Prop := orderStaysUptoRow.holds Tryz.pinned (OpenSpec.upto orderStaysSpec)

end Rows
end Go.Proofs.YtpmhiiemklhbhaaGreat
