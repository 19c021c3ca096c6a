/-
  NARROWER THAN 'FOR EVERY INPUT', by the rows' own cells (each row's printed sentence says how): KeysParse: laid · KeysBack: laid · KeysApart: laid · KeysTell: laid.
  DERIVED. THE GIVEN ROWS OF THIS SEAT. 4 by the template 'for every input the law returns true; each argument reads behind the call as it read before'; 0 by the template 'total and deterministic' (their statements: YtlginjmkmfodmaaDoorTotals.lean).
  GIVEN WITH THE SEED: the statements are not yours to turn. If you find one false, say at which input.
  Laid BY PROGRAM, IN A SANDBOX (cutbox-rows.mjs): the forced cells as the released guide's own fill.sh prints them over the translation 0f8c52b7674e4e67… (all of the seat's roots in one cut). By AI agents, Wed Nov 11 2026. No macro, syntax, notation, axiom, sorry.
-/
import Derived.Test.YtlginjmkmfodmaaDoorChecked
import GoSem.Claim
import GoSem.ClaimJoined
import GoSem.ClaimMapViews
import Derived.JoinedTies
import Derived.KernelRfl
namespace Go.Proofs.YtlginjmkmfodmaaDoor
/- THE CELL 'sum', in the pinned program and in every row, IS THE sha256 OF THE DUMP (.gsa) THAT YtlginjmkmfodmaaDoorProg.lean LOADS. Nothing in Lean hashes anything: it is a label: what it is worth is what the hold of that sum in a sandbox is worth. -/
noncomputable def Tryd.pinned : Pinned := { name := "ytlginjmkmfodmaadoor", sum := "0f8c52b7674e4e6785f3230cdcc3e7ea41bad7ea5be40faa811858f2513265f5", checked := Tryd.checked }
namespace Rows
def none {H : Type} : Left H := { results := [], args := [] }

/- WHAT THE LISTED PACKAGE-LEVEL VARIABLES READ AS WHEN THE CALL BEGINS. Each datum BY PROGRAM (the guide's laid-datum.mjs) off the statement by which the dump's own 'gosem.cut.vars' lays the variable. In a bare row this is a premise. The card (YtlginjmkmfodmaaDoorCards.lean) ties it to the program's text. -/
def laid_damier_keys_names {H : Type} : DataW H := .agg [.agg [.lit (.int .i64 60), .lit (.string [108, 116])], .agg [.lit (.int .i64 9), .lit (.string [84, 97, 98])], .agg [.lit (.int .i64 13), .lit (.string [67, 82])], .agg [.lit (.int .i64 8), .lit (.string [66, 83])], .agg [.lit (.int .i64 27), .lit (.string [69, 115, 99])], .agg [.lit (.int .i64 127), .lit (.string [68, 101, 108])], .agg [.lit (.int .i64 (-1)), .lit (.string [76, 101, 102, 116])], .agg [.lit (.int .i64 (-2)), .lit (.string [82, 105, 103, 104, 116])], .agg [.lit (.int .i64 (-3)), .lit (.string [85, 112])], .agg [.lit (.int .i64 (-4)), .lit (.string [68, 111, 119, 110])], .agg [.lit (.int .i64 (-5)), .lit (.string [72, 111, 109, 101])], .agg [.lit (.int .i64 (-6)), .lit (.string [69, 110, 100])]]

/-- 'damierlaw22.KeysParse': WHATEVER THE INPUT: true; the input reads as it did. -/
def keysParseSpec : ChangeSpec := { name := "keysParse", fn := fun _ => fun
  | [d] => { results := [.lit (.bool true)], args := [d] }
  | _ => none }
def keysParseRow : OpenClaim := { program := "ytlginjmkmfodmaadoor", sum := "0f8c52b7674e4e6785f3230cdcc3e7ea41bad7ea5be40faa811858f2513265f5", func := "damier/damierlaw22.KeysParse", spec := "keysParse", inPlace := ["internal/bytealg.IndexByteString", "internal/abi.NoEscape"], named := ["damier/keys.names"], apart := false, laid := [("damier/keys.names", laid_damier_keys_names)] }
def KeysParseSaid : Prop := keysParseRow.holds Tryd.pinned (OpenSpec.ofChange keysParseSpec)

/-- ITS FALSE NEIGHBOUR: 'it returns false'. Refute it at one input. -/
def keysParseWrong : ChangeSpec := { name := "keysParse", fn := fun _ => fun
  | [d] => { results := [.lit (.bool false)], args := [d] }
  | _ => none }
def KeysParseWrongFalsely : Prop := keysParseRow.holds Tryd.pinned (OpenSpec.ofChange keysParseWrong)

/-- 'damierlaw22.KeysBack': WHATEVER THE INPUT: true; the input reads as it did. -/
def keysBackSpec : ChangeSpec := { name := "keysBack", fn := fun _ => fun
  | [d] => { results := [.lit (.bool true)], args := [d] }
  | _ => none }
def keysBackRow : OpenClaim := { program := "ytlginjmkmfodmaadoor", sum := "0f8c52b7674e4e6785f3230cdcc3e7ea41bad7ea5be40faa811858f2513265f5", func := "damier/damierlaw22.KeysBack", spec := "keysBack", inPlace := ["internal/abi.NoEscape", "internal/bytealg.IndexByteString"], named := ["damier/keys.names"], apart := false, laid := [("damier/keys.names", laid_damier_keys_names)] }
def KeysBackSaid : Prop := keysBackRow.holds Tryd.pinned (OpenSpec.ofChange keysBackSpec)

/-- ITS FALSE NEIGHBOUR: 'it returns false'. Refute it at one input. -/
def keysBackWrong : ChangeSpec := { name := "keysBack", fn := fun _ => fun
  | [d] => { results := [.lit (.bool false)], args := [d] }
  | _ => none }
def KeysBackWrongFalsely : Prop := keysBackRow.holds Tryd.pinned (OpenSpec.ofChange keysBackWrong)

/-- 'damierlaw22.KeysApart': WHATEVER THE INPUT: true; the input reads as it did. -/
def keysApartSpec : ChangeSpec := { name := "keysApart", fn := fun _ => fun
  | [d1, d2] => { results := [.lit (.bool true)], args := [d1, d2] }
  | _ => none }
def keysApartRow : OpenClaim := { program := "ytlginjmkmfodmaadoor", sum := "0f8c52b7674e4e6785f3230cdcc3e7ea41bad7ea5be40faa811858f2513265f5", func := "damier/damierlaw22.KeysApart", spec := "keysApart", inPlace := ["internal/bytealg.IndexByteString", "internal/abi.NoEscape"], named := ["damier/keys.names"], apart := false, laid := [("damier/keys.names", laid_damier_keys_names)] }
def KeysApartSaid : Prop := keysApartRow.holds Tryd.pinned (OpenSpec.ofChange keysApartSpec)

/-- ITS FALSE NEIGHBOUR: 'it returns false'. Refute it at one input. -/
def keysApartWrong : ChangeSpec := { name := "keysApart", fn := fun _ => fun
  | [d1, d2] => { results := [.lit (.bool false)], args := [d1, d2] }
  | _ => none }
def KeysApartWrongFalsely : Prop := keysApartRow.holds Tryd.pinned (OpenSpec.ofChange keysApartWrong)

/-- 'damierlaw22.KeysTell': WHATEVER THE INPUT: true; the input reads as it did. -/
def keysTellSpec : ChangeSpec := { name := "keysTell", fn := fun _ => fun
  | [d1, d2] => { results := [.lit (.bool true)], args := [d1, d2] }
  | _ => none }
def keysTellRow : OpenClaim := { program := "ytlginjmkmfodmaadoor", sum := "0f8c52b7674e4e6785f3230cdcc3e7ea41bad7ea5be40faa811858f2513265f5", func := "damier/damierlaw22.KeysTell", spec := "keysTell", inPlace := ["internal/bytealg.IndexByteString", "internal/abi.NoEscape"], named := ["damier/keys.names"], apart := false, laid := [("damier/keys.names", laid_damier_keys_names)] }
def KeysTellSaid : Prop := keysTellRow.holds Tryd.pinned (OpenSpec.ofChange keysTellSpec)

/-- ITS FALSE NEIGHBOUR: 'it returns false'. Refute it at one input. -/
def keysTellWrong : ChangeSpec := { name := "keysTell", fn := fun _ => fun
  | [d1, d2] => { results := [.lit (.bool false)], args := [d1, d2] }
  | _ => none }
def KeysTellWrongFalsely : Prop := keysTellRow.holds Tryd.pinned (OpenSpec.ofChange keysTellWrong)

/- THE SECOND FORM. 'bulk': how many values and letters a reading holds, each counted each time it is reached (what is shared counts as often as it is met; a slice's spare places count too). A statement '..UptoSaid' is the law's where the arguments, and the package variables that the reading takes, are together of bulk at most 1048576: NARROWER than '..Said'. Prove '..Said' where nothing that the law and all that it calls make is longer than what came in: it says more and counts as full. Else prove '..UptoSaid'. A law counts once. -/
mutual
def uptoBulk {H : Type} : DataW H → Nat
  | .lit (.string bytes) => bytes.length + 1
  | .lit _ => 1
  | .nil => 1
  | .ptr d => uptoBulk d + 1
  | .slice elems spare => uptoBulkAll elems + uptoBulkAll spare + 1
  | .agg parts => uptoBulkAll parts + 1
  | .iface _ d => uptoBulk d + 1
  | .map entries => uptoBulkEntries entries + 1
  | .held _ => 1
def uptoBulkAll {H : Type} : List (DataW H) → Nat
  | [] => 0
  | d :: r => uptoBulk d + uptoBulkAll r
def uptoBulkEntries {H : Type} : List (Lit × DataW H) → Nat
  | [] => 0
  | x :: r => uptoBulkEntry x + uptoBulkEntries r
def uptoBulkEntry {H : Type} : Lit × DataW H → Nat
  | (.string bytes, d) => bytes.length + uptoBulk d + 1
  | (_, d) => uptoBulk d + 1
 end
def uptoSmall : (H : Type) → List (DataW H) → Bool := fun _ ds => decide (uptoBulkAll ds ≤ 1048576)
def OpenSpec.upto (s : _root_.Go.ChangeSpec) : _root_.Go.OpenSpec := { _root_.Go.OpenSpec.ofChange s with cond := some uptoSmall }

/-- 'damierlaw22.KeysParse', WHERE WHAT IT READS IS OF BULK AT MOST 1048576: true; the input reads as it did. -/
def keysParseUptoRow : OpenClaim := { program := "ytlginjmkmfodmaadoor", sum := "0f8c52b7674e4e6785f3230cdcc3e7ea41bad7ea5be40faa811858f2513265f5", func := "damier/damierlaw22.KeysParse", spec := "keysParse", inPlace := ["internal/bytealg.IndexByteString", "internal/abi.NoEscape"], named := ["damier/keys.names"], apart := false, laid := [("damier/keys.names", laid_damier_keys_names)], narrowed := true }
def KeysParseUptoSaid : Prop := keysParseUptoRow.holds Tryd.pinned (OpenSpec.upto keysParseSpec)

/-- 'damierlaw22.KeysBack', WHERE WHAT IT READS IS OF BULK AT MOST 1048576: true; the input reads as it did. -/
def keysBackUptoRow : OpenClaim := { program := "ytlginjmkmfodmaadoor", sum := "0f8c52b7674e4e6785f3230cdcc3e7ea41bad7ea5be40faa811858f2513265f5", func := "damier/damierlaw22.KeysBack", spec := "keysBack", inPlace := ["internal/abi.NoEscape", "internal/bytealg.IndexByteString"], named := ["damier/keys.names"], apart := false, laid := [("damier/keys.names", laid_damier_keys_names)], narrowed := true }
def KeysBackUptoSaid : Prop := keysBackUptoRow.holds Tryd.pinned (OpenSpec.upto keysBackSpec)

/-- 'damierlaw22.KeysApart', WHERE WHAT IT READS IS OF BULK AT MOST 1048576: true; the input reads as it did. -/
def keysApartUptoRow : OpenClaim := { program := "ytlginjmkmfodmaadoor", sum := "0f8c52b7674e4e6785f3230cdcc3e7ea41bad7ea5be40faa811858f2513265f5", func := "damier/damierlaw22.KeysApart", spec := "keysApart", inPlace := ["internal/bytealg.IndexByteString", "internal/abi.NoEscape"], named := ["damier/keys.names"], apart := false, laid := [("damier/keys.names", laid_damier_keys_names)], narrowed := true }
def KeysApartUptoSaid : Prop := keysApartUptoRow.holds Tryd.pinned (OpenSpec.upto keysApartSpec)

/-- 'damierlaw22.KeysTell', WHERE WHAT IT READS IS OF BULK AT MOST 1048576: true; the input reads as it did. -/
def keysTellUptoRow : OpenClaim := { program := "ytlginjmkmfodmaadoor", sum := "0f8c52b7674e4e6785f3230cdcc3e7ea41bad7ea5be40faa811858f2513265f5", func := "damier/damierlaw22.KeysTell", spec := "keysTell", inPlace := ["internal/bytealg.IndexByteString", "internal/abi.NoEscape"], named := ["damier/keys.names"], apart := false, laid := [("damier/keys.names", laid_damier_keys_names)], narrowed := true }
def KeysTellUptoSaid : Prop := keysTellUptoRow.holds Tryd.pinned (OpenSpec.upto keysTellSpec)

end Rows
end Go.Proofs.YtlginjmkmfodmaaDoor
