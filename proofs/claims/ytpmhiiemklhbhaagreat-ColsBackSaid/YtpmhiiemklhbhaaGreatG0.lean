/- Printed by a program of this session's own (gen.py): Lean functions for Go functions, and the proofs that the Go code comes to their answers. -/
import Derived.Test.YtpmhiiemklhbhaaGreatSL
set_option maxHeartbeats 4000000
set_option linter.unusedVariables false
set_option linter.unusedSimpArgs false
set_option maxRecDepth 20000
namespace Go.Proofs.YtpmhiiemklhbhaaGreat.S
open Go Go.Sm
structure tTr where
  fRoot : Option NP

structure grid_Grid where
  fRows : tTr
  fTail : Bool
  fEnd : Int

structure arena_Span where
  fAt : Int
  fN : Int
  deriving DecidableEq
def e_arena_Span (x : arena_Span) : Dat := .agg [.val (.int .i64 x.fAt), .val (.int .i64 x.fN)]
theorem beq_arena_Span (p q : arena_Span) : ((p.fAt == q.fAt) && ((p.fN == q.fN) && true)) = (p == q) := by
  rw [Bool.eq_iff_iff]; cases p; cases q; simp [arena_Span.mk.injEq, bs_toList]
structure scan_Field where
  fRaw : arena_Span
  fKind : Int
  fParts : List arena_Span
  deriving DecidableEq
def e_scan_Field (x : scan_Field) : Dat := .agg [.val (.int .i64 x.fRaw.fAt), .val (.int .i64 x.fRaw.fN), .val (.int .i64 x.fKind), .sl 2 (List.map e_arena_Span x.fParts)]
structure scan_Row where
  fFields : List scan_Field
  fEnd : Int
  deriving DecidableEq
def e_scan_Row (x : scan_Row) : Dat := .agg [.sl 4 (List.map e_scan_Field x.fFields), .val (.int .i64 x.fEnd)]
structure piece_Text where
  fL : List arena_Span
  fN : Int
  deriving DecidableEq
structure cell_Cell where
  fText : piece_Text
  fRaw : arena_Span
  fKept : Bool
  deriving DecidableEq
structure row_Row where
  fCells : List cell_Cell
  fEnd : Int
  fHidden : Bool
  deriving DecidableEq
def e_cell_Cell (x : cell_Cell) : Dat := .agg [.sl 2 (List.map e_arena_Span x.fText.fL), .val (.int .i64 x.fText.fN), .val (.int .i64 x.fRaw.fAt), .val (.int .i64 x.fRaw.fN), .val (.bool x.fKept)]
def e_row_Row (x : row_Row) : Dat := .agg [.sl 5 (List.map e_cell_Cell x.fCells), .val (.int .i64 x.fEnd), .val (.bool x.fHidden)]
def e_sl163 (x : List row_Row) : Dat := .sl 3 (List.map e_row_Row x)
structure tNd where
  fKids : List NP
  fItems : List row_Row
  fN : Int

def d_arena_Span : Dat → Option arena_Span
  | .agg [p0, p1] => bnd ((dI .i64) p0) fun y0 => bnd ((dI .i64) p1) fun y1 => some ⟨y0, y1⟩
  | _ => none
theorem d_arena_Span_eq {x : Dat} {y : arena_Span} (h : d_arena_Span x = some y) : x = e_arena_Span y := by
  unfold d_arena_Span at h
  split at h
  · obtain ⟨y0, h0, h⟩ := bnd_some h; obtain ⟨y1, h1, h⟩ := bnd_some h
    cases h
    obtain rfl := dI_eq h0; obtain rfl := dI_eq h1
    rfl
  · cases h
theorem d_arena_Span_e (y : arena_Span) : d_arena_Span (e_arena_Span y) = some y := by simp only [d_arena_Span, e_arena_Span, bnd_r, dI_r]
def d_cell_Cell : Dat → Option cell_Cell
  | .agg [p0, p1, p2, p3, p4] => bnd ((dL 2 d_arena_Span) p0) fun y0 => bnd ((dI .i64) p1) fun y1 => bnd ((dI .i64) p2) fun y2 => bnd ((dI .i64) p3) fun y3 => bnd (dB p4) fun y4 => some ⟨⟨y0, y1⟩, ⟨y2, y3⟩, y4⟩
  | _ => none
theorem d_cell_Cell_eq {x : Dat} {y : cell_Cell} (h : d_cell_Cell x = some y) : x = e_cell_Cell y := by
  unfold d_cell_Cell at h
  split at h
  · obtain ⟨y0, h0, h⟩ := bnd_some h; obtain ⟨y1, h1, h⟩ := bnd_some h; obtain ⟨y2, h2, h⟩ := bnd_some h; obtain ⟨y3, h3, h⟩ := bnd_some h; obtain ⟨y4, h4, h⟩ := bnd_some h
    cases h
    obtain rfl := (dL_eq d_arena_Span_eq) h0; obtain rfl := dI_eq h1; obtain rfl := dI_eq h2; obtain rfl := dI_eq h3; obtain rfl := dB_eq h4
    rfl
  · cases h
theorem d_cell_Cell_e (y : cell_Cell) : d_cell_Cell (e_cell_Cell y) = some y := by simp only [d_cell_Cell, e_cell_Cell, bnd_r, dB_r, dI_r, dL_e d_arena_Span_e]
def d_row_Row : Dat → Option row_Row
  | .agg [p0, p1, p2] => bnd ((dL 5 d_cell_Cell) p0) fun y0 => bnd ((dI .i64) p1) fun y1 => bnd (dB p2) fun y2 => some ⟨y0, y1, y2⟩
  | _ => none
theorem d_row_Row_eq {x : Dat} {y : row_Row} (h : d_row_Row x = some y) : x = e_row_Row y := by
  unfold d_row_Row at h
  split at h
  · obtain ⟨y0, h0, h⟩ := bnd_some h; obtain ⟨y1, h1, h⟩ := bnd_some h; obtain ⟨y2, h2, h⟩ := bnd_some h
    cases h
    obtain rfl := (dL_eq d_cell_Cell_eq) h0; obtain rfl := dI_eq h1; obtain rfl := dB_eq h2
    rfl
  · cases h
theorem d_row_Row_e (y : row_Row) : d_row_Row (e_row_Row y) = some y := by simp only [d_row_Row, e_row_Row, bnd_r, dB_r, dI_r, dL_e d_cell_Cell_e]
def c_tNd (y : tNd) : NP := ⟨[.sl 1 (List.map eNP y.fKids), .sl 3 (List.map e_row_Row y.fItems), .val (.int .i64 y.fN)]⟩
def o_tNd : NP → Option tNd
  | ⟨[p0, p1, p2]⟩ => bnd ((dL 1 dNP) p0) fun y0 => bnd ((dL 3 d_row_Row) p1) fun y1 => bnd ((dI .i64) p2) fun y2 => some ⟨y0, y1, y2⟩
  | _ => none
theorem o_tNd_eq {x : NP} {y : tNd} (h : o_tNd x = some y) : x = c_tNd y := by
  unfold o_tNd at h
  split at h
  · obtain ⟨y0, h0, h⟩ := bnd_some h; obtain ⟨y1, h1, h⟩ := bnd_some h; obtain ⟨y2, h2, h⟩ := bnd_some h
    cases h
    obtain rfl := (dL_eq dNP_eq) h0; obtain rfl := (dL_eq d_row_Row_eq) h1; obtain rfl := dI_eq h2
    rfl
  · cases h
theorem o_tNd_c (y : tNd) : o_tNd (c_tNd y) = some y := by simp only [o_tNd, c_tNd, bnd_r, dI_r, dL_e dNP_e, dL_e d_row_Row_e]
def e_sl221 (x : List NP) : Dat := .sl 1 (List.map eNP x)
structure ref03_Span where
  fAt : Int
  fN : Int
  deriving DecidableEq
structure ref05_Field where
  fRaw : ref03_Span
  fKind : Int
  fBytes : List Int
  deriving DecidableEq
def e_ref05_Field (x : ref05_Field) : Dat := .agg [.val (.int .i64 x.fRaw.fAt), .val (.int .i64 x.fRaw.fN), .val (.int .i64 x.fKind), .sl 1 (List.map (eI .i64) x.fBytes)]
structure ref05_Row where
  fFields : List ref05_Field
  fEnd : Int
  deriving DecidableEq
def e_ref05_Row (x : ref05_Row) : Dat := .agg [.sl 4 (List.map e_ref05_Field x.fFields), .val (.int .i64 x.fEnd)]
structure ref07_Cell where
  fS : List UInt8
  fRaw : List UInt8
  fKept : Bool
  deriving DecidableEq
def e_ref07_Cell (x : ref07_Cell) : Dat := .agg [.val (.string (bs x.fS)), .val (.string (bs x.fRaw)), .val (.bool x.fKept)]
structure ref08_Row where
  fCells : List ref07_Cell
  fEnd : Int
  fHidden : Bool
  deriving DecidableEq
def e_ref08_Row (x : ref08_Row) : Dat := .agg [.sl 3 (List.map e_ref07_Cell x.fCells), .val (.int .i64 x.fEnd), .val (.bool x.fHidden)]
structure ref11_Grid where
  fRows : List ref08_Row
  fTail : Bool
  fEnd : Int
  deriving DecidableEq
noncomputable def rfA23_0 : Code := lft (lft (rgt (lft (rgt (rgt (Tryz.f23.body.getD .skip))))))
noncomputable def rfB23_0 : Code := rgt (lft (rgt (lft (rgt (rgt (Tryz.f23.body.getD .skip))))))
structure wFr where
  fN : Option NP
  fFirst : Int
  fNext : Int

def e_wFr (x : wFr) : Dat := .agg [(eOP x.fN), .val (.int .i64 x.fFirst), .val (.int .i64 x.fNext)]
noncomputable def rfA100_0 : Code := lft (lft (rgt (lft (rgt (rgt (Tryz.f100.body.getD .skip))))))
noncomputable def rfB100_0 : Code := rgt (lft (rgt (lft (rgt (rgt (Tryz.f100.body.getD .skip))))))
noncomputable def rfA69_0 : Code := lft (lft (rgt (lft (rgt (rgt (Tryz.f69.body.getD .skip))))))
noncomputable def rfB69_0 : Code := rgt (lft (rgt (lft (rgt (rgt (Tryz.f69.body.getD .skip))))))
noncomputable def rfA76_0 : Code := lft (lft (rgt (lft (rgt (Tryz.f76.body.getD .skip)))))
noncomputable def rfB76_0 : Code := rgt (lft (rgt (lft (rgt (Tryz.f76.body.getD .skip)))))
def e_sl47 (x : List cell_Cell) : Dat := .sl 5 (List.map e_cell_Cell x)
noncomputable def rfA28_0 : Code := lft (lft (rgt (lft (rgt (rgt (Tryz.f28.body.getD .skip))))))
noncomputable def rfB28_0 : Code := rgt (lft (rgt (lft (rgt (rgt (Tryz.f28.body.getD .skip))))))
theorem beq_ref07_Cell (p q : ref07_Cell) : (((bs p.fS).toList == (bs q.fS).toList) && (((bs p.fRaw).toList == (bs q.fRaw).toList) && ((p.fKept == q.fKept) && true))) = (p == q) := by
  rw [Bool.eq_iff_iff]; cases p; cases q; simp [ref07_Cell.mk.injEq, bs_toList]
theorem drawsX : X.P.follows .mixedOrders = true := rfl
theorem fn5 : IsFn X 5 := ⟨Tryz.f5, Tryz.func5, by kernel_rfl, rfl⟩
theorem fn14 : IsFn X 14 := ⟨Tryz.f14, Tryz.func14, by kernel_rfl, rfl⟩
theorem fn15 : IsFn X 15 := ⟨Tryz.f15, Tryz.func15, by kernel_rfl, rfl⟩
theorem fn16 : IsFn X 16 := ⟨Tryz.f16, Tryz.func16, by kernel_rfl, rfl⟩
theorem fn19 : IsFn X 19 := ⟨Tryz.f19, Tryz.func19, by kernel_rfl, rfl⟩
theorem fn20 : IsFn X 20 := ⟨Tryz.f20, Tryz.func20, by kernel_rfl, rfl⟩
theorem fn22 : IsFn X 22 := ⟨Tryz.f22, Tryz.func22, by kernel_rfl, rfl⟩
theorem fn23 : IsFn X 23 := ⟨Tryz.f23, Tryz.func23, by kernel_rfl, rfl⟩
theorem fn24 : IsFn X 24 := ⟨Tryz.f24, Tryz.func24, by kernel_rfl, rfl⟩
theorem fn25 : IsFn X 25 := ⟨Tryz.f25, Tryz.func25, by kernel_rfl, rfl⟩
theorem fn26 : IsFn X 26 := ⟨Tryz.f26, Tryz.func26, by kernel_rfl, rfl⟩
theorem fn27 : IsFn X 27 := ⟨Tryz.f27, Tryz.func27, by kernel_rfl, rfl⟩
theorem fn28 : IsFn X 28 := ⟨Tryz.f28, Tryz.func28, by kernel_rfl, rfl⟩
theorem fn29 : IsFn X 29 := ⟨Tryz.f29, Tryz.func29, by kernel_rfl, rfl⟩
theorem fn30 : IsFn X 30 := ⟨Tryz.f30, Tryz.func30, by kernel_rfl, rfl⟩
theorem fn67 : IsFn X 67 := ⟨Tryz.f67, Tryz.func67, by kernel_rfl, rfl⟩
theorem fn68 : IsFn X 68 := ⟨Tryz.f68, Tryz.func68, by kernel_rfl, rfl⟩
theorem fn69 : IsFn X 69 := ⟨Tryz.f69, Tryz.func69, by kernel_rfl, rfl⟩
theorem fn70 : IsFn X 70 := ⟨Tryz.f70, Tryz.func70, by kernel_rfl, rfl⟩
theorem fn75 : IsFn X 75 := ⟨Tryz.f75, Tryz.func75, by kernel_rfl, rfl⟩
theorem fn76 : IsFn X 76 := ⟨Tryz.f76, Tryz.func76, by kernel_rfl, rfl⟩
theorem fn77 : IsFn X 77 := ⟨Tryz.f77, Tryz.func77, by kernel_rfl, rfl⟩
theorem fn79 : IsFn X 79 := ⟨Tryz.f79, Tryz.func79, by kernel_rfl, rfl⟩
theorem fn80 : IsFn X 80 := ⟨Tryz.f80, Tryz.func80, by kernel_rfl, rfl⟩
theorem fn81 : IsFn X 81 := ⟨Tryz.f81, Tryz.func81, by kernel_rfl, rfl⟩
theorem fn82 : IsFn X 82 := ⟨Tryz.f82, Tryz.func82, by kernel_rfl, rfl⟩
theorem fn83 : IsFn X 83 := ⟨Tryz.f83, Tryz.func83, by kernel_rfl, rfl⟩
theorem fn84 : IsFn X 84 := ⟨Tryz.f84, Tryz.func84, by kernel_rfl, rfl⟩
theorem fn85 : IsFn X 85 := ⟨Tryz.f85, Tryz.func85, by kernel_rfl, rfl⟩
theorem fn86 : IsFn X 86 := ⟨Tryz.f86, Tryz.func86, by kernel_rfl, rfl⟩
theorem fn87 : IsFn X 87 := ⟨Tryz.f87, Tryz.func87, by kernel_rfl, rfl⟩
theorem fn88 : IsFn X 88 := ⟨Tryz.f88, Tryz.func88, by kernel_rfl, rfl⟩
theorem fn89 : IsFn X 89 := ⟨Tryz.f89, Tryz.func89, by kernel_rfl, rfl⟩
theorem fn90 : IsFn X 90 := ⟨Tryz.f90, Tryz.func90, by kernel_rfl, rfl⟩
theorem fn91 : IsFn X 91 := ⟨Tryz.f91, Tryz.func91, by kernel_rfl, rfl⟩
theorem fn100 : IsFn X 100 := ⟨Tryz.f100, Tryz.func100, by kernel_rfl, rfl⟩
theorem fn101 : IsFn X 101 := ⟨Tryz.f101, Tryz.func101, by kernel_rfl, rfl⟩
theorem fn113 : IsFn X 113 := ⟨Tryz.f113, Tryz.func113, by kernel_rfl, rfl⟩
theorem fn128 : IsFn X 128 := ⟨Tryz.f128, Tryz.func128, by kernel_rfl, rfl⟩
theorem fn129 : IsFn X 129 := ⟨Tryz.f129, Tryz.func129, by kernel_rfl, rfl⟩
theorem fn130 : IsFn X 130 := ⟨Tryz.f130, Tryz.func130, by kernel_rfl, rfl⟩
theorem fn131 : IsFn X 131 := ⟨Tryz.f131, Tryz.func131, by kernel_rfl, rfl⟩
theorem fn132 : IsFn X 132 := ⟨Tryz.f132, Tryz.func132, by kernel_rfl, rfl⟩
theorem fn133 : IsFn X 133 := ⟨Tryz.f133, Tryz.func133, by kernel_rfl, rfl⟩
theorem fn134 : IsFn X 134 := ⟨Tryz.f134, Tryz.func134, by kernel_rfl, rfl⟩
theorem fn135 : IsFn X 135 := ⟨Tryz.f135, Tryz.func135, by kernel_rfl, rfl⟩
theorem fn136 : IsFn X 136 := ⟨Tryz.f136, Tryz.func136, by kernel_rfl, rfl⟩
theorem fn137 : IsFn X 137 := ⟨Tryz.f137, Tryz.func137, by kernel_rfl, rfl⟩
theorem fn138 : IsFn X 138 := ⟨Tryz.f138, Tryz.func138, by kernel_rfl, rfl⟩
theorem fn144 : IsFn X 144 := ⟨Tryz.f144, Tryz.func144, by kernel_rfl, rfl⟩
theorem fn145 : IsFn X 145 := ⟨Tryz.f145, Tryz.func145, by kernel_rfl, rfl⟩
theorem fn146 : IsFn X 146 := ⟨Tryz.f146, Tryz.func146, by kernel_rfl, rfl⟩
theorem fn147 : IsFn X 147 := ⟨Tryz.f147, Tryz.func147, by kernel_rfl, rfl⟩
theorem fn148 : IsFn X 148 := ⟨Tryz.f148, Tryz.func148, by kernel_rfl, rfl⟩
theorem fn149 : IsFn X 149 := ⟨Tryz.f149, Tryz.func149, by kernel_rfl, rfl⟩
theorem fn150 : IsFn X 150 := ⟨Tryz.f150, Tryz.func150, by kernel_rfl, rfl⟩
theorem fn151 : IsFn X 151 := ⟨Tryz.f151, Tryz.func151, by kernel_rfl, rfl⟩
theorem fn152 : IsFn X 152 := ⟨Tryz.f152, Tryz.func152, by kernel_rfl, rfl⟩
theorem fn153 : IsFn X 153 := ⟨Tryz.f153, Tryz.func153, by kernel_rfl, rfl⟩
theorem fn154 : IsFn X 154 := ⟨Tryz.f154, Tryz.func154, by kernel_rfl, rfl⟩
theorem fn155 : IsFn X 155 := ⟨Tryz.f155, Tryz.func155, by kernel_rfl, rfl⟩
theorem fn156 : IsFn X 156 := ⟨Tryz.f156, Tryz.func156, by kernel_rfl, rfl⟩
theorem fn157 : IsFn X 157 := ⟨Tryz.f157, Tryz.func157, by kernel_rfl, rfl⟩
theorem fn158 : IsFn X 158 := ⟨Tryz.f158, Tryz.func158, by kernel_rfl, rfl⟩
theorem fn159 : IsFn X 159 := ⟨Tryz.f159, Tryz.func159, by kernel_rfl, rfl⟩
theorem fn160 : IsFn X 160 := ⟨Tryz.f160, Tryz.func160, by kernel_rfl, rfl⟩
theorem fn161 : IsFn X 161 := ⟨Tryz.f161, Tryz.func161, by kernel_rfl, rfl⟩
theorem fn162 : IsFn X 162 := ⟨Tryz.f162, Tryz.func162, by kernel_rfl, rfl⟩
theorem fn163 : IsFn X 163 := ⟨Tryz.f163, Tryz.func163, by kernel_rfl, rfl⟩
theorem fn168 : IsFn X 168 := ⟨Tryz.f168, Tryz.func168, by kernel_rfl, rfl⟩
theorem fn169 : IsFn X 169 := ⟨Tryz.f169, Tryz.func169, by kernel_rfl, rfl⟩
theorem fn177 : IsFn X 177 := ⟨Tryz.f177, Tryz.func177, by kernel_rfl, rfl⟩
theorem fn183 : IsFn X 183 := ⟨Tryz.f183, Tryz.func183, by kernel_rfl, rfl⟩
theorem fn191 : IsFn X 191 := ⟨Tryz.f191, Tryz.func191, by kernel_rfl, rfl⟩
theorem fn192 : IsFn X 192 := ⟨Tryz.f192, Tryz.func192, by kernel_rfl, rfl⟩
theorem fn193 : IsFn X 193 := ⟨Tryz.f193, Tryz.func193, by kernel_rfl, rfl⟩
theorem fn194 : IsFn X 194 := ⟨Tryz.f194, Tryz.func194, by kernel_rfl, rfl⟩
theorem fn195 : IsFn X 195 := ⟨Tryz.f195, Tryz.func195, by kernel_rfl, rfl⟩
theorem fn196 : IsFn X 196 := ⟨Tryz.f196, Tryz.func196, by kernel_rfl, rfl⟩
theorem fn197 : IsFn X 197 := ⟨Tryz.f197, Tryz.func197, by kernel_rfl, rfl⟩
theorem fn198 : IsFn X 198 := ⟨Tryz.f198, Tryz.func198, by kernel_rfl, rfl⟩
theorem fn199 : IsFn X 199 := ⟨Tryz.f199, Tryz.func199, by kernel_rfl, rfl⟩
theorem fn201 : IsFn X 201 := ⟨Tryz.f201, Tryz.func201, by kernel_rfl, rfl⟩
theorem fn202 : IsFn X 202 := ⟨Tryz.f202, Tryz.func202, by kernel_rfl, rfl⟩
theorem fn209 : IsFn X 209 := ⟨Tryz.f209, Tryz.func209, by kernel_rfl, rfl⟩
theorem fn210 : IsFn X 210 := ⟨Tryz.f210, Tryz.func210, by kernel_rfl, rfl⟩
theorem fn211 : IsFn X 211 := ⟨Tryz.f211, Tryz.func211, by kernel_rfl, rfl⟩
theorem fn225 : IsFn X 225 := ⟨Tryz.f225, Tryz.func225, by kernel_rfl, rfl⟩
theorem fn226 : IsFn X 226 := ⟨Tryz.f226, Tryz.func226, by kernel_rfl, rfl⟩
theorem fn227 : IsFn X 227 := ⟨Tryz.f227, Tryz.func227, by kernel_rfl, rfl⟩
theorem fn228 : IsFn X 228 := ⟨Tryz.f228, Tryz.func228, by kernel_rfl, rfl⟩
theorem fn229 : IsFn X 229 := ⟨Tryz.f229, Tryz.func229, by kernel_rfl, rfl⟩
theorem fn230 : IsFn X 230 := ⟨Tryz.f230, Tryz.func230, by kernel_rfl, rfl⟩
theorem fn231 : IsFn X 231 := ⟨Tryz.f231, Tryz.func231, by kernel_rfl, rfl⟩
theorem fn235 : IsFn X 235 := ⟨Tryz.f235, Tryz.func235, by kernel_rfl, rfl⟩
theorem fn236 : IsFn X 236 := ⟨Tryz.f236, Tryz.func236, by kernel_rfl, rfl⟩
theorem fn252 : IsFn X 252 := ⟨Tryz.f252, Tryz.func252, by kernel_rfl, rfl⟩
theorem fn253 : IsFn X 253 := ⟨Tryz.f253, Tryz.func253, by kernel_rfl, rfl⟩
theorem fn254 : IsFn X 254 := ⟨Tryz.f254, Tryz.func254, by kernel_rfl, rfl⟩
theorem fn255 : IsFn X 255 := ⟨Tryz.f255, Tryz.func255, by kernel_rfl, rfl⟩
theorem fn256 : IsFn X 256 := ⟨Tryz.f256, Tryz.func256, by kernel_rfl, rfl⟩
theorem fn257 : IsFn X 257 := ⟨Tryz.f257, Tryz.func257, by kernel_rfl, rfl⟩
theorem fn258 : IsFn X 258 := ⟨Tryz.f258, Tryz.func258, by kernel_rfl, rfl⟩
theorem fn259 : IsFn X 259 := ⟨Tryz.f259, Tryz.func259, by kernel_rfl, rfl⟩
theorem fn260 : IsFn X 260 := ⟨Tryz.f260, Tryz.func260, by kernel_rfl, rfl⟩
theorem fn261 : IsFn X 261 := ⟨Tryz.f261, Tryz.func261, by kernel_rfl, rfl⟩
theorem fn262 : IsFn X 262 := ⟨Tryz.f262, Tryz.func262, by kernel_rfl, rfl⟩
theorem fn269 : IsFn X 269 := ⟨Tryz.f269, Tryz.func269, by kernel_rfl, rfl⟩
theorem fn270 : IsFn X 270 := ⟨Tryz.f270, Tryz.func270, by kernel_rfl, rfl⟩
theorem fn271 : IsFn X 271 := ⟨Tryz.f271, Tryz.func271, by kernel_rfl, rfl⟩
theorem fn272 : IsFn X 272 := ⟨Tryz.f272, Tryz.func272, by kernel_rfl, rfl⟩
theorem fn273 : IsFn X 273 := ⟨Tryz.f273, Tryz.func273, by kernel_rfl, rfl⟩
theorem fn276 : IsFn X 276 := ⟨Tryz.f276, Tryz.func276, by kernel_rfl, rfl⟩
end Go.Proofs.YtpmhiiemklhbhaaGreat.S
