/-
  No cell of these rows narrows 'for every input' (looked for: loops, veiled, ifaces, maps, wideKeys, modest, calm, conditions, laid).
  DERIVED. THE GIVEN ROWS OF THIS SEAT. 11 by the template 'for every input the law returns true; each argument reads behind the call as it read before'; 0 by the template 'total and deterministic' (their statements: YtkjcogmngoogcaaTotals.lean).
  GIVEN WITH THE SEED: the statements are not yours to turn. If you find one false, say at which input.
  Laid BY PROGRAM, IN A SANDBOX (cutbox-rows.mjs): the forced cells as the released guide's own fill.sh prints them over the translation 109e4edb9780f485… (all of the seat's roots in one cut). By AI agents, Wed Nov 11 2026. No macro, syntax, notation, axiom, sorry.
-/
import Derived.Test.YtkjcogmngoogcaaChecked
import GoSem.Claim
import GoSem.ClaimJoined
import GoSem.ClaimMapViews
import Derived.JoinedTies
import Derived.KernelRfl
namespace Go.Proofs.Ytkjcogmngoogcaa
/- THE CELL 'sum', in the pinned program and in every row, IS THE sha256 OF THE DUMP (.gsa) THAT YtkjcogmngoogcaaProg.lean LOADS. Nothing in Lean hashes anything: it is a label: what it is worth is what the hold of that sum in a sandbox is worth. -/
noncomputable def Try.pinned : Pinned := { name := "ytkjcogmngoogcaa", sum := "109e4edb9780f48503ef1cc3c74d240a815e35c6f6ff14ef36e404abab7f958c", checked := Try.checked }
namespace Rows
def none {H : Type} : Left H := { results := [], args := [] }

/-- 'damierlaw06.QuotePuts': WHATEVER THE INPUT: true; the input reads as it did. -/
def quotePutsSpec : ChangeSpec := { name := "quotePuts", fn := fun _ => fun
  | [d] => { results := [.lit (.bool true)], args := [d] }
  | _ => none }
def quotePutsRow : OpenClaim := { program := "ytkjcogmngoogcaa", sum := "109e4edb9780f48503ef1cc3c74d240a815e35c6f6ff14ef36e404abab7f958c", func := "damier/damierlaw06.QuotePuts", spec := "quotePuts", apart := false }
def QuotePutsSaid : Prop := quotePutsRow.holds Try.pinned (OpenSpec.ofChange quotePutsSpec)

/-- ITS FALSE NEIGHBOUR: 'it returns false'. Refute it at one input. -/
def quotePutsWrong : ChangeSpec := { name := "quotePuts", fn := fun _ => fun
  | [d] => { results := [.lit (.bool false)], args := [d] }
  | _ => none }
def QuotePutsWrongFalsely : Prop := quotePutsRow.holds Try.pinned (OpenSpec.ofChange quotePutsWrong)

/-- 'damierlaw06.QuoteReads': WHATEVER THE INPUT: true; the input reads as it did. -/
def quoteReadsSpec : ChangeSpec := { name := "quoteReads", fn := fun _ => fun
  | [d] => { results := [.lit (.bool true)], args := [d] }
  | _ => none }
def quoteReadsRow : OpenClaim := { program := "ytkjcogmngoogcaa", sum := "109e4edb9780f48503ef1cc3c74d240a815e35c6f6ff14ef36e404abab7f958c", func := "damier/damierlaw06.QuoteReads", spec := "quoteReads", apart := false }
def QuoteReadsSaid : Prop := quoteReadsRow.holds Try.pinned (OpenSpec.ofChange quoteReadsSpec)

/-- ITS FALSE NEIGHBOUR: 'it returns false'. Refute it at one input. -/
def quoteReadsWrong : ChangeSpec := { name := "quoteReads", fn := fun _ => fun
  | [d] => { results := [.lit (.bool false)], args := [d] }
  | _ => none }
def QuoteReadsWrongFalsely : Prop := quoteReadsRow.holds Try.pinned (OpenSpec.ofChange quoteReadsWrong)

/-- 'damierlaw06.QuoteBack': WHATEVER THE INPUT: true; the input reads as it did. -/
def quoteBackSpec : ChangeSpec := { name := "quoteBack", fn := fun _ => fun
  | [d1, d2] => { results := [.lit (.bool true)], args := [d1, d2] }
  | _ => none }
def quoteBackRow : OpenClaim := { program := "ytkjcogmngoogcaa", sum := "109e4edb9780f48503ef1cc3c74d240a815e35c6f6ff14ef36e404abab7f958c", func := "damier/damierlaw06.QuoteBack", spec := "quoteBack", apart := false }
def QuoteBackSaid : Prop := quoteBackRow.holds Try.pinned (OpenSpec.ofChange quoteBackSpec)

/-- ITS FALSE NEIGHBOUR: 'it returns false'. Refute it at one input. -/
def quoteBackWrong : ChangeSpec := { name := "quoteBack", fn := fun _ => fun
  | [d1, d2] => { results := [.lit (.bool false)], args := [d1, d2] }
  | _ => none }
def QuoteBackWrongFalsely : Prop := quoteBackRow.holds Try.pinned (OpenSpec.ofChange quoteBackWrong)

/-- 'damierlaw06.QuoteRight': WHATEVER THE INPUT: true; the input reads as it did. -/
def quoteRightSpec : ChangeSpec := { name := "quoteRight", fn := fun _ => fun
  | [d1, d2] => { results := [.lit (.bool true)], args := [d1, d2] }
  | _ => none }
def quoteRightRow : OpenClaim := { program := "ytkjcogmngoogcaa", sum := "109e4edb9780f48503ef1cc3c74d240a815e35c6f6ff14ef36e404abab7f958c", func := "damier/damierlaw06.QuoteRight", spec := "quoteRight", apart := false }
def QuoteRightSaid : Prop := quoteRightRow.holds Try.pinned (OpenSpec.ofChange quoteRightSpec)

/-- ITS FALSE NEIGHBOUR: 'it returns false'. Refute it at one input. -/
def quoteRightWrong : ChangeSpec := { name := "quoteRight", fn := fun _ => fun
  | [d1, d2] => { results := [.lit (.bool false)], args := [d1, d2] }
  | _ => none }
def QuoteRightWrongFalsely : Prop := quoteRightRow.holds Try.pinned (OpenSpec.ofChange quoteRightWrong)

/-- 'damierlaw06.QuoteRows': WHATEVER THE INPUT: true; the input reads as it did. -/
def quoteRowsSpec : ChangeSpec := { name := "quoteRows", fn := fun _ => fun
  | [d] => { results := [.lit (.bool true)], args := [d] }
  | _ => none }
def quoteRowsRow : OpenClaim := { program := "ytkjcogmngoogcaa", sum := "109e4edb9780f48503ef1cc3c74d240a815e35c6f6ff14ef36e404abab7f958c", func := "damier/damierlaw06.QuoteRows", spec := "quoteRows", apart := false }
def QuoteRowsSaid : Prop := quoteRowsRow.holds Try.pinned (OpenSpec.ofChange quoteRowsSpec)

/-- ITS FALSE NEIGHBOUR: 'it returns false'. Refute it at one input. -/
def quoteRowsWrong : ChangeSpec := { name := "quoteRows", fn := fun _ => fun
  | [d] => { results := [.lit (.bool false)], args := [d] }
  | _ => none }
def QuoteRowsWrongFalsely : Prop := quoteRowsRow.holds Try.pinned (OpenSpec.ofChange quoteRowsWrong)

/-- 'damierlaw04.PieceTidy': WHATEVER THE INPUT: true; the input reads as it did. -/
def pieceTidySpec : ChangeSpec := { name := "pieceTidy", fn := fun _ => fun
  | [d1, d2, d3] => { results := [.lit (.bool true)], args := [d1, d2, d3] }
  | _ => none }
def pieceTidyRow : OpenClaim := { program := "ytkjcogmngoogcaa", sum := "109e4edb9780f48503ef1cc3c74d240a815e35c6f6ff14ef36e404abab7f958c", func := "damier/damierlaw04.PieceTidy", spec := "pieceTidy", inPlace := ["internal/bytealg.IndexByte", "internal/bytealg.Index"], unfollowed := true, recurses := true, named := ["internal/bytealg.MaxLen"], apart := false }
def PieceTidySaid : Prop := pieceTidyRow.holds Try.pinned (OpenSpec.ofChange pieceTidySpec)

/-- ITS FALSE NEIGHBOUR: 'it returns false'. Refute it at one input. -/
def pieceTidyWrong : ChangeSpec := { name := "pieceTidy", fn := fun _ => fun
  | [d1, d2, d3] => { results := [.lit (.bool false)], args := [d1, d2, d3] }
  | _ => none }
def PieceTidyWrongFalsely : Prop := pieceTidyRow.holds Try.pinned (OpenSpec.ofChange pieceTidyWrong)

/-- 'damierlaw07.CellSame': WHATEVER THE INPUT: true; the input reads as it did. -/
def cellSameSpec : ChangeSpec := { name := "cellSame", fn := fun _ => fun
  | [d1, d2, d3] => { results := [.lit (.bool true)], args := [d1, d2, d3] }
  | _ => none }
def cellSameRow : OpenClaim := { program := "ytkjcogmngoogcaa", sum := "109e4edb9780f48503ef1cc3c74d240a815e35c6f6ff14ef36e404abab7f958c", func := "damier/damierlaw07.CellSame", spec := "cellSame", inPlace := ["internal/bytealg.IndexByte", "internal/bytealg.Index"], named := ["internal/bytealg.MaxLen"], apart := false }
def CellSameSaid : Prop := cellSameRow.holds Try.pinned (OpenSpec.ofChange cellSameSpec)

/-- ITS FALSE NEIGHBOUR: 'it returns false'. Refute it at one input. -/
def cellSameWrong : ChangeSpec := { name := "cellSame", fn := fun _ => fun
  | [d1, d2, d3] => { results := [.lit (.bool false)], args := [d1, d2, d3] }
  | _ => none }
def CellSameWrongFalsely : Prop := cellSameRow.holds Try.pinned (OpenSpec.ofChange cellSameWrong)

/-- 'damierlaw07.CellLoads': WHATEVER THE INPUT: true; the input reads as it did. -/
def cellLoadsSpec : ChangeSpec := { name := "cellLoads", fn := fun _ => fun
  | [d] => { results := [.lit (.bool true)], args := [d] }
  | _ => none }
def cellLoadsRow : OpenClaim := { program := "ytkjcogmngoogcaa", sum := "109e4edb9780f48503ef1cc3c74d240a815e35c6f6ff14ef36e404abab7f958c", func := "damier/damierlaw07.CellLoads", spec := "cellLoads", inPlace := ["internal/bytealg.IndexByte", "internal/bytealg.Index"], named := ["internal/bytealg.MaxLen"], apart := false }
def CellLoadsSaid : Prop := cellLoadsRow.holds Try.pinned (OpenSpec.ofChange cellLoadsSpec)

/-- ITS FALSE NEIGHBOUR: 'it returns false'. Refute it at one input. -/
def cellLoadsWrong : ChangeSpec := { name := "cellLoads", fn := fun _ => fun
  | [d] => { results := [.lit (.bool false)], args := [d] }
  | _ => none }
def CellLoadsWrongFalsely : Prop := cellLoadsRow.holds Try.pinned (OpenSpec.ofChange cellLoadsWrong)

/-- 'damierlaw07.CellPuts': WHATEVER THE INPUT: true; the input reads as it did. -/
def cellPutsSpec : ChangeSpec := { name := "cellPuts", fn := fun _ => fun
  | [d1, d2, d3] => { results := [.lit (.bool true)], args := [d1, d2, d3] }
  | _ => none }
def cellPutsRow : OpenClaim := { program := "ytkjcogmngoogcaa", sum := "109e4edb9780f48503ef1cc3c74d240a815e35c6f6ff14ef36e404abab7f958c", func := "damier/damierlaw07.CellPuts", spec := "cellPuts", inPlace := ["internal/bytealg.IndexByte", "internal/bytealg.Index"], named := ["internal/bytealg.MaxLen"], apart := false }
def CellPutsSaid : Prop := cellPutsRow.holds Try.pinned (OpenSpec.ofChange cellPutsSpec)

/-- ITS FALSE NEIGHBOUR: 'it returns false'. Refute it at one input. -/
def cellPutsWrong : ChangeSpec := { name := "cellPuts", fn := fun _ => fun
  | [d1, d2, d3] => { results := [.lit (.bool false)], args := [d1, d2, d3] }
  | _ => none }
def CellPutsWrongFalsely : Prop := cellPutsRow.holds Try.pinned (OpenSpec.ofChange cellPutsWrong)

/-- 'damierlaw07.CellBack': WHATEVER THE INPUT: true; the input reads as it did. -/
def cellBackSpec : ChangeSpec := { name := "cellBack", fn := fun _ => fun
  | [d] => { results := [.lit (.bool true)], args := [d] }
  | _ => none }
def cellBackRow : OpenClaim := { program := "ytkjcogmngoogcaa", sum := "109e4edb9780f48503ef1cc3c74d240a815e35c6f6ff14ef36e404abab7f958c", func := "damier/damierlaw07.CellBack", spec := "cellBack", inPlace := ["internal/bytealg.IndexByte", "internal/bytealg.Index"], named := ["internal/bytealg.MaxLen"], apart := false }
def CellBackSaid : Prop := cellBackRow.holds Try.pinned (OpenSpec.ofChange cellBackSpec)

/-- ITS FALSE NEIGHBOUR: 'it returns false'. Refute it at one input. -/
def cellBackWrong : ChangeSpec := { name := "cellBack", fn := fun _ => fun
  | [d] => { results := [.lit (.bool false)], args := [d] }
  | _ => none }
def CellBackWrongFalsely : Prop := cellBackRow.holds Try.pinned (OpenSpec.ofChange cellBackWrong)

/-- 'damierlaw07.CellWrites': WHATEVER THE INPUT: true; the input reads as it did. -/
def cellWritesSpec : ChangeSpec := { name := "cellWrites", fn := fun _ => fun
  | [d1, d2] => { results := [.lit (.bool true)], args := [d1, d2] }
  | _ => none }
def cellWritesRow : OpenClaim := { program := "ytkjcogmngoogcaa", sum := "109e4edb9780f48503ef1cc3c74d240a815e35c6f6ff14ef36e404abab7f958c", func := "damier/damierlaw07.CellWrites", spec := "cellWrites", inPlace := ["internal/bytealg.IndexByte", "internal/bytealg.Index"], unfollowed := true, recurses := true, named := ["internal/bytealg.MaxLen"], apart := false }
def CellWritesSaid : Prop := cellWritesRow.holds Try.pinned (OpenSpec.ofChange cellWritesSpec)

/-- ITS FALSE NEIGHBOUR: 'it returns false'. Refute it at one input. -/
def cellWritesWrong : ChangeSpec := { name := "cellWrites", fn := fun _ => fun
  | [d1, d2] => { results := [.lit (.bool false)], args := [d1, d2] }
  | _ => none }
def CellWritesWrongFalsely : Prop := cellWritesRow.holds Try.pinned (OpenSpec.ofChange cellWritesWrong)

/- THE SECOND FORM. 'bulk': how many values and letters a reading holds, each counted each time it is reached (what is shared counts as often as it is met; a slice's spare places count too). A statement '..UptoSaid' is the law's where the arguments, and the package variables that the reading takes, are together of bulk at most 1048576: NARROWER than '..Said'. Prove '..Said' where nothing that the law and all that it calls make is longer than what came in: it says more and counts as full. Else prove '..UptoSaid'. A law counts once. -/
mutual
def uptoBulk {H : Type} : DataW H → Nat
  | .lit (.string bytes) => bytes.length + 1
  | .lit _ => 1
  | .nil => 1
  | .ptr d => uptoBulk d + 1
  | .slice elems spare => uptoBulkAll elems + uptoBulkAll spare + 1
  | .agg parts => uptoBulkAll parts + 1
  | .iface _ d => uptoBulk d + 1
  | .map entries => uptoBulkEntries entries + 1
  | .held _ => 1
def uptoBulkAll {H : Type} : List (DataW H) → Nat
  | [] => 0
  | d :: r => uptoBulk d + uptoBulkAll r
def uptoBulkEntries {H : Type} : List (Lit × DataW H) → Nat
  | [] => 0
  | x :: r => uptoBulkEntry x + uptoBulkEntries r
def uptoBulkEntry {H : Type} : Lit × DataW H → Nat
  | (.string bytes, d) => bytes.length + uptoBulk d + 1
  | (_, d) => uptoBulk d + 1
 end
def uptoSmall : (H : Type) → List (DataW H) → Bool := fun _ ds => decide (uptoBulkAll ds ≤ 1048576)
def OpenSpec.upto (s : _root_.Go.ChangeSpec) : _root_.Go.OpenSpec := { _root_.Go.OpenSpec.ofChange s with cond := some uptoSmall }

/-- 'damierlaw06.QuotePuts', WHERE WHAT IT READS IS OF BULK AT MOST 1048576: true; the input reads as it did. -/
def quotePutsUptoRow : OpenClaim := { program := "ytkjcogmngoogcaa", sum := "109e4edb9780f48503ef1cc3c74d240a815e35c6f6ff14ef36e404abab7f958c", func := "damier/damierlaw06.QuotePuts", spec := "quotePuts", apart := false, narrowed := true }
def QuotePutsUptoSaid : Prop := quotePutsUptoRow.holds Try.pinned (OpenSpec.upto quotePutsSpec)

/-- 'damierlaw06.QuoteReads', WHERE WHAT IT READS IS OF BULK AT MOST 1048576: true; the input reads as it did. -/
def quoteReadsUptoRow : OpenClaim := { program := "ytkjcogmngoogcaa", sum := "109e4edb9780f48503ef1cc3c74d240a815e35c6f6ff14ef36e404abab7f958c", func := "damier/damierlaw06.QuoteReads", spec := "quoteReads", apart := false, narrowed := true }
def QuoteReadsUptoSaid : Prop := quoteReadsUptoRow.holds Try.pinned (OpenSpec.upto quoteReadsSpec)

/-- 'damierlaw06.QuoteBack', WHERE WHAT IT READS IS OF BULK AT MOST 1048576: true; the input reads as it did. -/
def quoteBackUptoRow : OpenClaim := { program := "ytkjcogmngoogcaa", sum := "109e4edb9780f48503ef1cc3c74d240a815e35c6f6ff14ef36e404abab7f958c", func := "damier/damierlaw06.QuoteBack", spec := "quoteBack", apart := false, narrowed := true }
def QuoteBackUptoSaid : Prop := quoteBackUptoRow.holds Try.pinned (OpenSpec.upto quoteBackSpec)

/-- 'damierlaw06.QuoteRight', WHERE WHAT IT READS IS OF BULK AT MOST 1048576: true; the input reads as it did. -/
def quoteRightUptoRow : OpenClaim := { program := "ytkjcogmngoogcaa", sum := "109e4edb9780f48503ef1cc3c74d240a815e35c6f6ff14ef36e404abab7f958c", func := "damier/damierlaw06.QuoteRight", spec := "quoteRight", apart := false, narrowed := true }
def QuoteRightUptoSaid : Prop := quoteRightUptoRow.holds Try.pinned (OpenSpec.upto quoteRightSpec)

/-- 'damierlaw06.QuoteRows', WHERE WHAT IT READS IS OF BULK AT MOST 1048576: true; the input reads as it did. -/
def quoteRowsUptoRow : OpenClaim := { program := "ytkjcogmngoogcaa", sum := "109e4edb9780f48503ef1cc3c74d240a815e35c6f6ff14ef36e404abab7f958c", func := "damier/damierlaw06.QuoteRows", spec := "quoteRows", apart := false, narrowed := true }
def QuoteRowsUptoSaid : Prop := quoteRowsUptoRow.holds Try.pinned (OpenSpec.upto quoteRowsSpec)

/-- 'damierlaw04.PieceTidy', WHERE WHAT IT READS IS OF BULK AT MOST 1048576: true; the input reads as it did. -/
def pieceTidyUptoRow : OpenClaim := { program := "ytkjcogmngoogcaa", sum := "109e4edb9780f48503ef1cc3c74d240a815e35c6f6ff14ef36e404abab7f958c", func := "damier/damierlaw04.PieceTidy", spec := "pieceTidy", inPlace := ["internal/bytealg.IndexByte", "internal/bytealg.Index"], unfollowed := true, recurses := true, named := ["internal/bytealg.MaxLen"], apart := false, narrowed := true }
def PieceTidyUptoSaid : Prop := pieceTidyUptoRow.holds Try.pinned (OpenSpec.upto pieceTidySpec)

/-- 'damierlaw07.CellSame', WHERE WHAT IT READS IS OF BULK AT MOST 1048576: true; the input reads as it did. -/
def cellSameUptoRow : OpenClaim := { program := "ytkjcogmngoogcaa", sum := "109e4edb9780f48503ef1cc3c74d240a815e35c6f6ff14ef36e404abab7f958c", func := "damier/damierlaw07.CellSame", spec := "cellSame", inPlace := ["internal/bytealg.IndexByte", "internal/bytealg.Index"], named := ["internal/bytealg.MaxLen"], apart := false, narrowed := true }
def CellSameUptoSaid : Prop := cellSameUptoRow.holds Try.pinned (OpenSpec.upto cellSameSpec)

/-- 'damierlaw07.CellLoads', WHERE WHAT IT READS IS OF BULK AT MOST 1048576: true; the input reads as it did. -/
def cellLoadsUptoRow : OpenClaim := { program := "ytkjcogmngoogcaa", sum := "109e4edb9780f48503ef1cc3c74d240a815e35c6f6ff14ef36e404abab7f958c", func := "damier/damierlaw07.CellLoads", spec := "cellLoads", inPlace := ["internal/bytealg.IndexByte", "internal/bytealg.Index"], named := ["internal/bytealg.MaxLen"], apart := false, narrowed := true }
def CellLoadsUptoSaid : Prop := cellLoadsUptoRow.holds Try.pinned (OpenSpec.upto cellLoadsSpec)

/-- 'damierlaw07.CellPuts', WHERE WHAT IT READS IS OF BULK AT MOST 1048576: true; the input reads as it did. -/
def cellPutsUptoRow : OpenClaim := { program := "ytkjcogmngoogcaa", sum := "109e4edb9780f48503ef1cc3c74d240a815e35c6f6ff14ef36e404abab7f958c", func := "damier/damierlaw07.CellPuts", spec := "cellPuts", inPlace := ["internal/bytealg.IndexByte", "internal/bytealg.Index"], named := ["internal/bytealg.MaxLen"], apart := false, narrowed := true }
def CellPutsUptoSaid : Prop := cellPutsUptoRow.holds Try.pinned (OpenSpec.upto cellPutsSpec)

/-- 'damierlaw07.CellBack', WHERE WHAT IT READS IS OF BULK AT MOST 1048576: true; the input reads as it did. -/
def cellBackUptoRow : OpenClaim := { program := "ytkjcogmngoogcaa", sum := "109e4edb9780f48503ef1cc3c74d240a815e35c6f6ff14ef36e404abab7f958c", func := "damier/damierlaw07.CellBack", spec := "cellBack", inPlace := ["internal/bytealg.IndexByte", "internal/bytealg.Index"], named := ["internal/bytealg.MaxLen"], apart := false, narrowed := true }
def CellBackUptoSaid : Prop := cellBackUptoRow.holds Try.pinned (OpenSpec.upto cellBackSpec)

/-- 'damierlaw07.CellWrites', WHERE WHAT IT READS IS OF BULK AT MOST 1048576: true; the input reads as it did. -/
def cellWritesUptoRow : OpenClaim := { program := "ytkjcogmngoogcaa", sum := "109e4edb9780f48503ef1cc3c74d240a815e35c6f6ff14ef36e404abab7f958c", func := "damier/damierlaw07.CellWrites", spec := "cellWrites", inPlace := ["internal/bytealg.IndexByte", "internal/bytealg.Index"], unfollowed := true, recurses := true, named := ["internal/bytealg.MaxLen"], apart := false, narrowed := true }
def CellWritesUptoSaid : Prop := cellWritesUptoRow.holds Try.pinned (OpenSpec.upto cellWritesSpec)

end Rows
end Go.Proofs.Ytkjcogmngoogcaa
