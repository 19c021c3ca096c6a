/- Printed by a program of this session's own (gen.py): Lean functions for Go functions, and the proofs that the Go code comes to their answers. -/
import Derived.Test.YtbcbggdgkdfciaaSH
set_option linter.unusedVariables false
set_option linter.unusedSimpArgs false
set_option maxRecDepth 20000
namespace Go.Proofs.Ytbcbggdgkdfciaa.S
open Go Go.Sm
structure law17_Swap where
  fP : List UInt8
  fWith : List UInt8
  fAll : Bool
  deriving DecidableEq
structure arena_Span where
  fAt : Int
  fN : Int
  deriving DecidableEq
def e_arena_Span (x : arena_Span) : Dat := .agg [.val (.int .i64 x.fAt), .val (.int .i64 x.fN)]
theorem beq_arena_Span (p q : arena_Span) : ((p.fAt == q.fAt) && ((p.fN == q.fN) && true)) = (p == q) := by
  rw [Bool.eq_iff_iff]; cases p; cases q; simp [arena_Span.mk.injEq, bs_toList]
structure scan_Field where
  fRaw : arena_Span
  fKind : Int
  fParts : List arena_Span
  deriving DecidableEq
def e_scan_Field (x : scan_Field) : Dat := .agg [.val (.int .i64 x.fRaw.fAt), .val (.int .i64 x.fRaw.fN), .val (.int .i64 x.fKind), .sl 2 (List.map e_arena_Span x.fParts)]
structure scan_Row where
  fFields : List scan_Field
  fEnd : Int
  deriving DecidableEq
def e_scan_Row (x : scan_Row) : Dat := .agg [.sl 4 (List.map e_scan_Field x.fFields), .val (.int .i64 x.fEnd)]
structure ref03_Span where
  fAt : Int
  fN : Int
  deriving DecidableEq
structure ref05_Field where
  fRaw : ref03_Span
  fKind : Int
  fBytes : List Int
  deriving DecidableEq
def e_ref05_Field (x : ref05_Field) : Dat := .agg [.val (.int .i64 x.fRaw.fAt), .val (.int .i64 x.fRaw.fN), .val (.int .i64 x.fKind), .sl 1 (List.map (eI .i64) x.fBytes)]
structure ref05_Row where
  fFields : List ref05_Field
  fEnd : Int
  deriving DecidableEq
def e_ref05_Row (x : ref05_Row) : Dat := .agg [.sl 4 (List.map e_ref05_Field x.fFields), .val (.int .i64 x.fEnd)]
structure piece_Text where
  fL : List arena_Span
  fN : Int
  deriving DecidableEq
structure cell_Cell where
  fText : piece_Text
  fRaw : arena_Span
  fKept : Bool
  deriving DecidableEq
def e_cell_Cell (x : cell_Cell) : Dat := .agg [.sl 2 (List.map e_arena_Span x.fText.fL), .val (.int .i64 x.fText.fN), .val (.int .i64 x.fRaw.fAt), .val (.int .i64 x.fRaw.fN), .val (.bool x.fKept)]
structure row_Row where
  fCells : List cell_Cell
  fEnd : Int
  fHidden : Bool
  deriving DecidableEq
structure ref07_Cell where
  fS : List UInt8
  fRaw : List UInt8
  fKept : Bool
  deriving DecidableEq
def e_ref07_Cell (x : ref07_Cell) : Dat := .agg [.val (.string (bs x.fS)), .val (.string (bs x.fRaw)), .val (.bool x.fKept)]
structure ref08_Row where
  fCells : List ref07_Cell
  fEnd : Int
  fHidden : Bool
  deriving DecidableEq
theorem beq_ref07_Cell (p q : ref07_Cell) : (((bs p.fS).toList == (bs q.fS).toList) && (((bs p.fRaw).toList == (bs q.fRaw).toList) && ((p.fKept == q.fKept) && true))) = (p == q) := by
  rw [Bool.eq_iff_iff]; cases p; cases q; simp [ref07_Cell.mk.injEq, bs_toList]
def e_row_Row (x : row_Row) : Dat := .agg [.sl 5 (List.map e_cell_Cell x.fCells), .val (.int .i64 x.fEnd), .val (.bool x.fHidden)]
def e_ref08_Row (x : ref08_Row) : Dat := .agg [.sl 3 (List.map e_ref07_Cell x.fCells), .val (.int .i64 x.fEnd), .val (.bool x.fHidden)]
structure line_Line where
  fT : piece_Text
  fAt : Int
  deriving DecidableEq
structure utf_first where
  fMark : Int
  fRoom : Int
  deriving DecidableEq
structure line_Edit where
  fFrom : Int
  fTo : Int
  fIn : List UInt8
  fAt : Int
  deriving DecidableEq
def e_piece_Text (x : piece_Text) : Dat := .agg [.sl 2 (List.map e_arena_Span x.fL), .val (.int .i64 x.fN)]
structure ref30_Text where
  fS : List UInt8
  fAt : Int
  deriving DecidableEq
structure line_Prompt where
  fS : List UInt8
  fAt : Int
  deriving DecidableEq
theorem beq_line_Prompt (p q : line_Prompt) : (((bs p.fS).toList == (bs q.fS).toList) && ((p.fAt == q.fAt) && true)) = (p == q) := by
  rw [Bool.eq_iff_iff]; cases p; cases q; simp [line_Prompt.mk.injEq, bs_toList]
theorem beq_line_Edit (p q : line_Edit) : ((p.fFrom == q.fFrom) && ((p.fTo == q.fTo) && (((bs p.fIn).toList == (bs q.fIn).toList) && ((p.fAt == q.fAt) && true)))) = (p == q) := by
  rw [Bool.eq_iff_iff]; cases p; cases q; simp [line_Edit.mk.injEq, bs_toList]
structure law08_Op where
  fKind : Int
  fI : Int
  fJ : Int
  fS : List UInt8
  fOn : Bool
  deriving DecidableEq
def e_law08_Op (x : law08_Op) : Dat := .agg [.val (.int .i64 x.fKind), .val (.int .i64 x.fI), .val (.int .i64 x.fJ), .val (.string (bs x.fS)), .val (.bool x.fOn)]
def e_sl47 (x : List cell_Cell) : Dat := .sl 5 (List.map e_cell_Cell x)
def e_sl208 (x : List row_Row) : Dat := .sl 3 (List.map e_row_Row x)
theorem drawsX : X.P.follows .mixedOrders = true := rfl
theorem fn5 : IsFn X 5 := ⟨Try.f5, Try.func5, by kernel_rfl, rfl⟩
theorem fn6 : IsFn X 6 := ⟨Try.f6, Try.func6, by kernel_rfl, rfl⟩
theorem fn7 : IsFn X 7 := ⟨Try.f7, Try.func7, by kernel_rfl, rfl⟩
theorem fn8 : IsFn X 8 := ⟨Try.f8, Try.func8, by kernel_rfl, rfl⟩
theorem fn10 : IsFn X 10 := ⟨Try.f10, Try.func10, by kernel_rfl, rfl⟩
theorem fn24 : IsFn X 24 := ⟨Try.f24, Try.func24, by kernel_rfl, rfl⟩
theorem fn25 : IsFn X 25 := ⟨Try.f25, Try.func25, by kernel_rfl, rfl⟩
theorem fn26 : IsFn X 26 := ⟨Try.f26, Try.func26, by kernel_rfl, rfl⟩
theorem fn27 : IsFn X 27 := ⟨Try.f27, Try.func27, by kernel_rfl, rfl⟩
theorem fn28 : IsFn X 28 := ⟨Try.f28, Try.func28, by kernel_rfl, rfl⟩
theorem fn29 : IsFn X 29 := ⟨Try.f29, Try.func29, by kernel_rfl, rfl⟩
theorem fn30 : IsFn X 30 := ⟨Try.f30, Try.func30, by kernel_rfl, rfl⟩
theorem fn31 : IsFn X 31 := ⟨Try.f31, Try.func31, by kernel_rfl, rfl⟩
theorem fn32 : IsFn X 32 := ⟨Try.f32, Try.func32, by kernel_rfl, rfl⟩
theorem fn33 : IsFn X 33 := ⟨Try.f33, Try.func33, by kernel_rfl, rfl⟩
theorem fn34 : IsFn X 34 := ⟨Try.f34, Try.func34, by kernel_rfl, rfl⟩
theorem fn35 : IsFn X 35 := ⟨Try.f35, Try.func35, by kernel_rfl, rfl⟩
theorem fn36 : IsFn X 36 := ⟨Try.f36, Try.func36, by kernel_rfl, rfl⟩
theorem fn37 : IsFn X 37 := ⟨Try.f37, Try.func37, by kernel_rfl, rfl⟩
theorem fn38 : IsFn X 38 := ⟨Try.f38, Try.func38, by kernel_rfl, rfl⟩
theorem fn39 : IsFn X 39 := ⟨Try.f39, Try.func39, by kernel_rfl, rfl⟩
theorem fn40 : IsFn X 40 := ⟨Try.f40, Try.func40, by kernel_rfl, rfl⟩
theorem fn41 : IsFn X 41 := ⟨Try.f41, Try.func41, by kernel_rfl, rfl⟩
theorem fn42 : IsFn X 42 := ⟨Try.f42, Try.func42, by kernel_rfl, rfl⟩
theorem fn43 : IsFn X 43 := ⟨Try.f43, Try.func43, by kernel_rfl, rfl⟩
theorem fn44 : IsFn X 44 := ⟨Try.f44, Try.func44, by kernel_rfl, rfl⟩
theorem fn45 : IsFn X 45 := ⟨Try.f45, Try.func45, by kernel_rfl, rfl⟩
theorem fn46 : IsFn X 46 := ⟨Try.f46, Try.func46, by kernel_rfl, rfl⟩
theorem fn47 : IsFn X 47 := ⟨Try.f47, Try.func47, by kernel_rfl, rfl⟩
theorem fn48 : IsFn X 48 := ⟨Try.f48, Try.func48, by kernel_rfl, rfl⟩
theorem fn49 : IsFn X 49 := ⟨Try.f49, Try.func49, by kernel_rfl, rfl⟩
theorem fn50 : IsFn X 50 := ⟨Try.f50, Try.func50, by kernel_rfl, rfl⟩
theorem fn51 : IsFn X 51 := ⟨Try.f51, Try.func51, by kernel_rfl, rfl⟩
theorem fn52 : IsFn X 52 := ⟨Try.f52, Try.func52, by kernel_rfl, rfl⟩
theorem fn53 : IsFn X 53 := ⟨Try.f53, Try.func53, by kernel_rfl, rfl⟩
theorem fn54 : IsFn X 54 := ⟨Try.f54, Try.func54, by kernel_rfl, rfl⟩
theorem fn59 : IsFn X 59 := ⟨Try.f59, Try.func59, by kernel_rfl, rfl⟩
theorem fn60 : IsFn X 60 := ⟨Try.f60, Try.func60, by kernel_rfl, rfl⟩
theorem fn61 : IsFn X 61 := ⟨Try.f61, Try.func61, by kernel_rfl, rfl⟩
theorem fn65 : IsFn X 65 := ⟨Try.f65, Try.func65, by kernel_rfl, rfl⟩
theorem fn66 : IsFn X 66 := ⟨Try.f66, Try.func66, by kernel_rfl, rfl⟩
theorem fn67 : IsFn X 67 := ⟨Try.f67, Try.func67, by kernel_rfl, rfl⟩
theorem fn68 : IsFn X 68 := ⟨Try.f68, Try.func68, by kernel_rfl, rfl⟩
theorem fn69 : IsFn X 69 := ⟨Try.f69, Try.func69, by kernel_rfl, rfl⟩
theorem fn70 : IsFn X 70 := ⟨Try.f70, Try.func70, by kernel_rfl, rfl⟩
theorem fn71 : IsFn X 71 := ⟨Try.f71, Try.func71, by kernel_rfl, rfl⟩
theorem fn72 : IsFn X 72 := ⟨Try.f72, Try.func72, by kernel_rfl, rfl⟩
theorem fn73 : IsFn X 73 := ⟨Try.f73, Try.func73, by kernel_rfl, rfl⟩
theorem fn74 : IsFn X 74 := ⟨Try.f74, Try.func74, by kernel_rfl, rfl⟩
theorem fn75 : IsFn X 75 := ⟨Try.f75, Try.func75, by kernel_rfl, rfl⟩
theorem fn76 : IsFn X 76 := ⟨Try.f76, Try.func76, by kernel_rfl, rfl⟩
theorem fn77 : IsFn X 77 := ⟨Try.f77, Try.func77, by kernel_rfl, rfl⟩
theorem fn78 : IsFn X 78 := ⟨Try.f78, Try.func78, by kernel_rfl, rfl⟩
theorem fn79 : IsFn X 79 := ⟨Try.f79, Try.func79, by kernel_rfl, rfl⟩
theorem fn80 : IsFn X 80 := ⟨Try.f80, Try.func80, by kernel_rfl, rfl⟩
theorem fn81 : IsFn X 81 := ⟨Try.f81, Try.func81, by kernel_rfl, rfl⟩
theorem fn82 : IsFn X 82 := ⟨Try.f82, Try.func82, by kernel_rfl, rfl⟩
theorem fn83 : IsFn X 83 := ⟨Try.f83, Try.func83, by kernel_rfl, rfl⟩
theorem fn84 : IsFn X 84 := ⟨Try.f84, Try.func84, by kernel_rfl, rfl⟩
theorem fn85 : IsFn X 85 := ⟨Try.f85, Try.func85, by kernel_rfl, rfl⟩
theorem fn86 : IsFn X 86 := ⟨Try.f86, Try.func86, by kernel_rfl, rfl⟩
theorem fn87 : IsFn X 87 := ⟨Try.f87, Try.func87, by kernel_rfl, rfl⟩
theorem fn88 : IsFn X 88 := ⟨Try.f88, Try.func88, by kernel_rfl, rfl⟩
theorem fn89 : IsFn X 89 := ⟨Try.f89, Try.func89, by kernel_rfl, rfl⟩
theorem fn90 : IsFn X 90 := ⟨Try.f90, Try.func90, by kernel_rfl, rfl⟩
theorem fn91 : IsFn X 91 := ⟨Try.f91, Try.func91, by kernel_rfl, rfl⟩
theorem fn92 : IsFn X 92 := ⟨Try.f92, Try.func92, by kernel_rfl, rfl⟩
theorem fn93 : IsFn X 93 := ⟨Try.f93, Try.func93, by kernel_rfl, rfl⟩
theorem fn94 : IsFn X 94 := ⟨Try.f94, Try.func94, by kernel_rfl, rfl⟩
theorem fn95 : IsFn X 95 := ⟨Try.f95, Try.func95, by kernel_rfl, rfl⟩
theorem fn96 : IsFn X 96 := ⟨Try.f96, Try.func96, by kernel_rfl, rfl⟩
theorem fn97 : IsFn X 97 := ⟨Try.f97, Try.func97, by kernel_rfl, rfl⟩
theorem fn98 : IsFn X 98 := ⟨Try.f98, Try.func98, by kernel_rfl, rfl⟩
theorem fn99 : IsFn X 99 := ⟨Try.f99, Try.func99, by kernel_rfl, rfl⟩
theorem fn100 : IsFn X 100 := ⟨Try.f100, Try.func100, by kernel_rfl, rfl⟩
theorem fn101 : IsFn X 101 := ⟨Try.f101, Try.func101, by kernel_rfl, rfl⟩
theorem fn102 : IsFn X 102 := ⟨Try.f102, Try.func102, by kernel_rfl, rfl⟩
theorem fn110 : IsFn X 110 := ⟨Try.f110, Try.func110, by kernel_rfl, rfl⟩
theorem fn111 : IsFn X 111 := ⟨Try.f111, Try.func111, by kernel_rfl, rfl⟩
theorem fn112 : IsFn X 112 := ⟨Try.f112, Try.func112, by kernel_rfl, rfl⟩
theorem fn113 : IsFn X 113 := ⟨Try.f113, Try.func113, by kernel_rfl, rfl⟩
theorem fn119 : IsFn X 119 := ⟨Try.f119, Try.func119, by kernel_rfl, rfl⟩
theorem fn120 : IsFn X 120 := ⟨Try.f120, Try.func120, by kernel_rfl, rfl⟩
theorem fn121 : IsFn X 121 := ⟨Try.f121, Try.func121, by kernel_rfl, rfl⟩
theorem fn122 : IsFn X 122 := ⟨Try.f122, Try.func122, by kernel_rfl, rfl⟩
theorem fn123 : IsFn X 123 := ⟨Try.f123, Try.func123, by kernel_rfl, rfl⟩
theorem fn124 : IsFn X 124 := ⟨Try.f124, Try.func124, by kernel_rfl, rfl⟩
theorem fn125 : IsFn X 125 := ⟨Try.f125, Try.func125, by kernel_rfl, rfl⟩
theorem fn126 : IsFn X 126 := ⟨Try.f126, Try.func126, by kernel_rfl, rfl⟩
theorem fn127 : IsFn X 127 := ⟨Try.f127, Try.func127, by kernel_rfl, rfl⟩
theorem fn128 : IsFn X 128 := ⟨Try.f128, Try.func128, by kernel_rfl, rfl⟩
theorem fn129 : IsFn X 129 := ⟨Try.f129, Try.func129, by kernel_rfl, rfl⟩
theorem fn130 : IsFn X 130 := ⟨Try.f130, Try.func130, by kernel_rfl, rfl⟩
theorem fn131 : IsFn X 131 := ⟨Try.f131, Try.func131, by kernel_rfl, rfl⟩
theorem fn132 : IsFn X 132 := ⟨Try.f132, Try.func132, by kernel_rfl, rfl⟩
theorem fn133 : IsFn X 133 := ⟨Try.f133, Try.func133, by kernel_rfl, rfl⟩
theorem fn134 : IsFn X 134 := ⟨Try.f134, Try.func134, by kernel_rfl, rfl⟩
theorem fn135 : IsFn X 135 := ⟨Try.f135, Try.func135, by kernel_rfl, rfl⟩
theorem fn136 : IsFn X 136 := ⟨Try.f136, Try.func136, by kernel_rfl, rfl⟩
theorem fn137 : IsFn X 137 := ⟨Try.f137, Try.func137, by kernel_rfl, rfl⟩
theorem fn138 : IsFn X 138 := ⟨Try.f138, Try.func138, by kernel_rfl, rfl⟩
theorem fn139 : IsFn X 139 := ⟨Try.f139, Try.func139, by kernel_rfl, rfl⟩
theorem fn140 : IsFn X 140 := ⟨Try.f140, Try.func140, by kernel_rfl, rfl⟩
theorem fn141 : IsFn X 141 := ⟨Try.f141, Try.func141, by kernel_rfl, rfl⟩
theorem fn142 : IsFn X 142 := ⟨Try.f142, Try.func142, by kernel_rfl, rfl⟩
theorem fn143 : IsFn X 143 := ⟨Try.f143, Try.func143, by kernel_rfl, rfl⟩
theorem fn144 : IsFn X 144 := ⟨Try.f144, Try.func144, by kernel_rfl, rfl⟩
theorem fn145 : IsFn X 145 := ⟨Try.f145, Try.func145, by kernel_rfl, rfl⟩
theorem fn146 : IsFn X 146 := ⟨Try.f146, Try.func146, by kernel_rfl, rfl⟩
theorem fn147 : IsFn X 147 := ⟨Try.f147, Try.func147, by kernel_rfl, rfl⟩
theorem fn148 : IsFn X 148 := ⟨Try.f148, Try.func148, by kernel_rfl, rfl⟩
theorem fn149 : IsFn X 149 := ⟨Try.f149, Try.func149, by kernel_rfl, rfl⟩
theorem fn150 : IsFn X 150 := ⟨Try.f150, Try.func150, by kernel_rfl, rfl⟩
theorem fn151 : IsFn X 151 := ⟨Try.f151, Try.func151, by kernel_rfl, rfl⟩
theorem fn162 : IsFn X 162 := ⟨Try.f162, Try.func162, by kernel_rfl, rfl⟩
theorem fn165 : IsFn X 165 := ⟨Try.f165, Try.func165, by kernel_rfl, rfl⟩
theorem fn166 : IsFn X 166 := ⟨Try.f166, Try.func166, by kernel_rfl, rfl⟩
theorem fn167 : IsFn X 167 := ⟨Try.f167, Try.func167, by kernel_rfl, rfl⟩
theorem fn168 : IsFn X 168 := ⟨Try.f168, Try.func168, by kernel_rfl, rfl⟩
theorem fn169 : IsFn X 169 := ⟨Try.f169, Try.func169, by kernel_rfl, rfl⟩
theorem fn170 : IsFn X 170 := ⟨Try.f170, Try.func170, by kernel_rfl, rfl⟩
theorem fn171 : IsFn X 171 := ⟨Try.f171, Try.func171, by kernel_rfl, rfl⟩
theorem fn172 : IsFn X 172 := ⟨Try.f172, Try.func172, by kernel_rfl, rfl⟩
theorem fn173 : IsFn X 173 := ⟨Try.f173, Try.func173, by kernel_rfl, rfl⟩
theorem fn174 : IsFn X 174 := ⟨Try.f174, Try.func174, by kernel_rfl, rfl⟩
theorem fn175 : IsFn X 175 := ⟨Try.f175, Try.func175, by kernel_rfl, rfl⟩
theorem fn180 : IsFn X 180 := ⟨Try.f180, Try.func180, by kernel_rfl, rfl⟩
theorem fn181 : IsFn X 181 := ⟨Try.f181, Try.func181, by kernel_rfl, rfl⟩
theorem fn182 : IsFn X 182 := ⟨Try.f182, Try.func182, by kernel_rfl, rfl⟩
theorem fn183 : IsFn X 183 := ⟨Try.f183, Try.func183, by kernel_rfl, rfl⟩
theorem fn184 : IsFn X 184 := ⟨Try.f184, Try.func184, by kernel_rfl, rfl⟩
theorem fn185 : IsFn X 185 := ⟨Try.f185, Try.func185, by kernel_rfl, rfl⟩
theorem fn186 : IsFn X 186 := ⟨Try.f186, Try.func186, by kernel_rfl, rfl⟩
theorem fn187 : IsFn X 187 := ⟨Try.f187, Try.func187, by kernel_rfl, rfl⟩
theorem fn188 : IsFn X 188 := ⟨Try.f188, Try.func188, by kernel_rfl, rfl⟩
theorem fn202 : IsFn X 202 := ⟨Try.f202, Try.func202, by kernel_rfl, rfl⟩
theorem fn203 : IsFn X 203 := ⟨Try.f203, Try.func203, by kernel_rfl, rfl⟩
theorem fn204 : IsFn X 204 := ⟨Try.f204, Try.func204, by kernel_rfl, rfl⟩
theorem fn205 : IsFn X 205 := ⟨Try.f205, Try.func205, by kernel_rfl, rfl⟩
theorem fn206 : IsFn X 206 := ⟨Try.f206, Try.func206, by kernel_rfl, rfl⟩
theorem fn209 : IsFn X 209 := ⟨Try.f209, Try.func209, by kernel_rfl, rfl⟩
theorem fn210 : IsFn X 210 := ⟨Try.f210, Try.func210, by kernel_rfl, rfl⟩
theorem fn216 : IsFn X 216 := ⟨Try.f216, Try.func216, by kernel_rfl, rfl⟩
theorem fn217 : IsFn X 217 := ⟨Try.f217, Try.func217, by kernel_rfl, rfl⟩
theorem fn218 : IsFn X 218 := ⟨Try.f218, Try.func218, by kernel_rfl, rfl⟩
end Go.Proofs.Ytbcbggdgkdfciaa.S
