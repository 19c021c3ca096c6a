/-
  DERIVED. GIVEN WITH THE SEED: THE CARDS: each row of YtlginjmkmfodmaaDoorRows.lean that lists a variable, with what it lists TIED to the program's text (the seventh form; the later family's looks); each row that meets fmt, with fmt's text TOLD by the authors' own Lean function (tested against real Go, not proved from fmt's source: count such statements apart). THE CARD IS WHAT COUNTS. Prove the row's statement (the work); the ties are given (YtlginjmkmfodmaaDoorTie.lean); close each card by the builder's one call (the guide's Derived/Test/ToyasCard.lean, 'card_holds'). Laid BY PROGRAM, IN A SANDBOX (cutbox-door.mjs). By AI agents, Wed Nov 11 2026. No macro, syntax, notation, axiom, sorry.
-/
import Derived.Test.YtlginjmkmfodmaaDoorRows
import GoSem.ClaimSeven
namespace Go.Proofs.YtlginjmkmfodmaaDoor
namespace Rows

/-- THE TIED CARD OF 'damierlaw22.KeysParse'. -/
def keysParseCard : Claim7 := { stood := { row := keysParseRow, standIns := [], harness := (true, "4db5b2216c4e1e1259383e31c579e86563d8a3d406a4a221c4449872cc92e913"), looks := false }, kinds := [], alts := [], laidByText := true, laidKinds := [.data], laidTests := true, laidLooks := .later }
def KeysParseCardSaid : Prop := Claim7.holds Tryd.pinned (.plain (OpenSpec.ofChange keysParseSpec)) keysParseCard

/-- THE TIED CARD OF 'damierlaw22.KeysBack'. -/
def keysBackCard : Claim7 := { stood := { row := keysBackRow, standIns := [], harness := (true, "4db5b2216c4e1e1259383e31c579e86563d8a3d406a4a221c4449872cc92e913"), looks := false }, kinds := [], alts := [], laidByText := true, laidKinds := [.data], laidTests := true, laidLooks := .later }
def KeysBackCardSaid : Prop := Claim7.holds Tryd.pinned (.plain (OpenSpec.ofChange keysBackSpec)) keysBackCard

/-- THE TIED CARD OF 'damierlaw22.KeysApart'. -/
def keysApartCard : Claim7 := { stood := { row := keysApartRow, standIns := [], harness := (true, "4db5b2216c4e1e1259383e31c579e86563d8a3d406a4a221c4449872cc92e913"), looks := false }, kinds := [], alts := [], laidByText := true, laidKinds := [.data], laidTests := true, laidLooks := .later }
def KeysApartCardSaid : Prop := Claim7.holds Tryd.pinned (.plain (OpenSpec.ofChange keysApartSpec)) keysApartCard

/-- THE TIED CARD OF 'damierlaw22.KeysTell'. -/
def keysTellCard : Claim7 := { stood := { row := keysTellRow, standIns := [], harness := (true, "4db5b2216c4e1e1259383e31c579e86563d8a3d406a4a221c4449872cc92e913"), looks := false }, kinds := [], alts := [], laidByText := true, laidKinds := [.data], laidTests := true, laidLooks := .later }
def KeysTellCardSaid : Prop := Claim7.holds Tryd.pinned (.plain (OpenSpec.ofChange keysTellSpec)) keysTellCard

/-- THE SECOND FORM's CARD OF 'damierlaw22.KeysParse'. -/
def keysParseUptoCard : Claim7 := { stood := { row := keysParseUptoRow, standIns := [], harness := (true, "4db5b2216c4e1e1259383e31c579e86563d8a3d406a4a221c4449872cc92e913"), looks := false }, kinds := [], alts := [], laidByText := true, laidKinds := [.data], laidTests := true, laidLooks := .later }
def KeysParseUptoCardSaid : Prop := Claim7.holds Tryd.pinned (.plain (OpenSpec.upto keysParseSpec)) keysParseUptoCard

/-- THE SECOND FORM's CARD OF 'damierlaw22.KeysBack'. -/
def keysBackUptoCard : Claim7 := { stood := { row := keysBackUptoRow, standIns := [], harness := (true, "4db5b2216c4e1e1259383e31c579e86563d8a3d406a4a221c4449872cc92e913"), looks := false }, kinds := [], alts := [], laidByText := true, laidKinds := [.data], laidTests := true, laidLooks := .later }
def KeysBackUptoCardSaid : Prop := Claim7.holds Tryd.pinned (.plain (OpenSpec.upto keysBackSpec)) keysBackUptoCard

/-- THE SECOND FORM's CARD OF 'damierlaw22.KeysApart'. -/
def keysApartUptoCard : Claim7 := { stood := { row := keysApartUptoRow, standIns := [], harness := (true, "4db5b2216c4e1e1259383e31c579e86563d8a3d406a4a221c4449872cc92e913"), looks := false }, kinds := [], alts := [], laidByText := true, laidKinds := [.data], laidTests := true, laidLooks := .later }
def KeysApartUptoCardSaid : Prop := Claim7.holds Tryd.pinned (.plain (OpenSpec.upto keysApartSpec)) keysApartUptoCard

/-- THE SECOND FORM's CARD OF 'damierlaw22.KeysTell'. -/
def keysTellUptoCard : Claim7 := { stood := { row := keysTellUptoRow, standIns := [], harness := (true, "4db5b2216c4e1e1259383e31c579e86563d8a3d406a4a221c4449872cc92e913"), looks := false }, kinds := [], alts := [], laidByText := true, laidKinds := [.data], laidTests := true, laidLooks := .later }
def KeysTellUptoCardSaid : Prop := Claim7.holds Tryd.pinned (.plain (OpenSpec.upto keysTellSpec)) keysTellUptoCard
end Rows
end Go.Proofs.YtlginjmkmfodmaaDoor
