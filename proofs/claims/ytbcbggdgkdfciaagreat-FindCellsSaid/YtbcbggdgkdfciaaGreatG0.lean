/- Printed by a program of this session's own (gen.py): Lean functions for Go functions, and the proofs that the Go code comes to their answers. -/
import Derived.Test.YtbcbggdgkdfciaaGreatSL
set_option maxHeartbeats 4000000
set_option linter.unusedVariables false
set_option linter.unusedSimpArgs false
set_option maxRecDepth 20000
namespace Go.Proofs.YtbcbggdgkdfciaaGreat.S
open Go Go.Sm
structure law17_Where where
  fP : List UInt8
  fR : Int
  fC : Int
  deriving DecidableEq
structure tTr where
  fRoot : Option NP

structure grid_Grid where
  fRows : tTr
  fTail : Bool
  fEnd : Int

structure arena_Span where
  fAt : Int
  fN : Int
  deriving DecidableEq
def e_arena_Span (x : arena_Span) : Dat := .agg [.val (.int .i64 x.fAt), .val (.int .i64 x.fN)]
theorem beq_arena_Span (p q : arena_Span) : ((p.fAt == q.fAt) && ((p.fN == q.fN) && true)) = (p == q) := by
  rw [Bool.eq_iff_iff]; cases p; cases q; simp [arena_Span.mk.injEq, bs_toList]
structure scan_Field where
  fRaw : arena_Span
  fKind : Int
  fParts : List arena_Span
  deriving DecidableEq
def e_scan_Field (x : scan_Field) : Dat := .agg [.val (.int .i64 x.fRaw.fAt), .val (.int .i64 x.fRaw.fN), .val (.int .i64 x.fKind), .sl 2 (List.map e_arena_Span x.fParts)]
structure scan_Row where
  fFields : List scan_Field
  fEnd : Int
  deriving DecidableEq
def e_scan_Row (x : scan_Row) : Dat := .agg [.sl 4 (List.map e_scan_Field x.fFields), .val (.int .i64 x.fEnd)]
structure piece_Text where
  fL : List arena_Span
  fN : Int
  deriving DecidableEq
structure cell_Cell where
  fText : piece_Text
  fRaw : arena_Span
  fKept : Bool
  deriving DecidableEq
structure row_Row where
  fCells : List cell_Cell
  fEnd : Int
  fHidden : Bool
  deriving DecidableEq
def e_cell_Cell (x : cell_Cell) : Dat := .agg [.sl 2 (List.map e_arena_Span x.fText.fL), .val (.int .i64 x.fText.fN), .val (.int .i64 x.fRaw.fAt), .val (.int .i64 x.fRaw.fN), .val (.bool x.fKept)]
def e_row_Row (x : row_Row) : Dat := .agg [.sl 5 (List.map e_cell_Cell x.fCells), .val (.int .i64 x.fEnd), .val (.bool x.fHidden)]
def e_sl102 (x : List row_Row) : Dat := .sl 3 (List.map e_row_Row x)
structure tNd where
  fKids : List NP
  fItems : List row_Row
  fN : Int

def d_arena_Span : Dat → Option arena_Span
  | .agg [p0, p1] => bnd ((dI .i64) p0) fun y0 => bnd ((dI .i64) p1) fun y1 => some ⟨y0, y1⟩
  | _ => none
theorem d_arena_Span_eq {x : Dat} {y : arena_Span} (h : d_arena_Span x = some y) : x = e_arena_Span y := by
  unfold d_arena_Span at h
  split at h
  · obtain ⟨y0, h0, h⟩ := bnd_some h; obtain ⟨y1, h1, h⟩ := bnd_some h
    cases h
    obtain rfl := dI_eq h0; obtain rfl := dI_eq h1
    rfl
  · cases h
theorem d_arena_Span_e (y : arena_Span) : d_arena_Span (e_arena_Span y) = some y := by simp only [d_arena_Span, e_arena_Span, bnd_r, dI_r]
def d_cell_Cell : Dat → Option cell_Cell
  | .agg [p0, p1, p2, p3, p4] => bnd ((dL 2 d_arena_Span) p0) fun y0 => bnd ((dI .i64) p1) fun y1 => bnd ((dI .i64) p2) fun y2 => bnd ((dI .i64) p3) fun y3 => bnd (dB p4) fun y4 => some ⟨⟨y0, y1⟩, ⟨y2, y3⟩, y4⟩
  | _ => none
theorem d_cell_Cell_eq {x : Dat} {y : cell_Cell} (h : d_cell_Cell x = some y) : x = e_cell_Cell y := by
  unfold d_cell_Cell at h
  split at h
  · obtain ⟨y0, h0, h⟩ := bnd_some h; obtain ⟨y1, h1, h⟩ := bnd_some h; obtain ⟨y2, h2, h⟩ := bnd_some h; obtain ⟨y3, h3, h⟩ := bnd_some h; obtain ⟨y4, h4, h⟩ := bnd_some h
    cases h
    obtain rfl := (dL_eq d_arena_Span_eq) h0; obtain rfl := dI_eq h1; obtain rfl := dI_eq h2; obtain rfl := dI_eq h3; obtain rfl := dB_eq h4
    rfl
  · cases h
theorem d_cell_Cell_e (y : cell_Cell) : d_cell_Cell (e_cell_Cell y) = some y := by simp only [d_cell_Cell, e_cell_Cell, bnd_r, dB_r, dI_r, dL_e d_arena_Span_e]
def d_row_Row : Dat → Option row_Row
  | .agg [p0, p1, p2] => bnd ((dL 5 d_cell_Cell) p0) fun y0 => bnd ((dI .i64) p1) fun y1 => bnd (dB p2) fun y2 => some ⟨y0, y1, y2⟩
  | _ => none
theorem d_row_Row_eq {x : Dat} {y : row_Row} (h : d_row_Row x = some y) : x = e_row_Row y := by
  unfold d_row_Row at h
  split at h
  · obtain ⟨y0, h0, h⟩ := bnd_some h; obtain ⟨y1, h1, h⟩ := bnd_some h; obtain ⟨y2, h2, h⟩ := bnd_some h
    cases h
    obtain rfl := (dL_eq d_cell_Cell_eq) h0; obtain rfl := dI_eq h1; obtain rfl := dB_eq h2
    rfl
  · cases h
theorem d_row_Row_e (y : row_Row) : d_row_Row (e_row_Row y) = some y := by simp only [d_row_Row, e_row_Row, bnd_r, dB_r, dI_r, dL_e d_cell_Cell_e]
def c_tNd (y : tNd) : NP := ⟨[.sl 1 (List.map eNP y.fKids), .sl 3 (List.map e_row_Row y.fItems), .val (.int .i64 y.fN)]⟩
def o_tNd : NP → Option tNd
  | ⟨[p0, p1, p2]⟩ => bnd ((dL 1 dNP) p0) fun y0 => bnd ((dL 3 d_row_Row) p1) fun y1 => bnd ((dI .i64) p2) fun y2 => some ⟨y0, y1, y2⟩
  | _ => none
theorem o_tNd_eq {x : NP} {y : tNd} (h : o_tNd x = some y) : x = c_tNd y := by
  unfold o_tNd at h
  split at h
  · obtain ⟨y0, h0, h⟩ := bnd_some h; obtain ⟨y1, h1, h⟩ := bnd_some h; obtain ⟨y2, h2, h⟩ := bnd_some h
    cases h
    obtain rfl := (dL_eq dNP_eq) h0; obtain rfl := (dL_eq d_row_Row_eq) h1; obtain rfl := dI_eq h2
    rfl
  · cases h
theorem o_tNd_c (y : tNd) : o_tNd (c_tNd y) = some y := by simp only [o_tNd, c_tNd, bnd_r, dI_r, dL_e dNP_e, dL_e d_row_Row_e]
def e_sl128 (x : List NP) : Dat := .sl 1 (List.map eNP x)
structure ref03_Span where
  fAt : Int
  fN : Int
  deriving DecidableEq
structure ref05_Field where
  fRaw : ref03_Span
  fKind : Int
  fBytes : List Int
  deriving DecidableEq
def e_ref05_Field (x : ref05_Field) : Dat := .agg [.val (.int .i64 x.fRaw.fAt), .val (.int .i64 x.fRaw.fN), .val (.int .i64 x.fKind), .sl 1 (List.map (eI .i64) x.fBytes)]
structure ref05_Row where
  fFields : List ref05_Field
  fEnd : Int
  deriving DecidableEq
def e_ref05_Row (x : ref05_Row) : Dat := .agg [.sl 4 (List.map e_ref05_Field x.fFields), .val (.int .i64 x.fEnd)]
structure ref07_Cell where
  fS : List UInt8
  fRaw : List UInt8
  fKept : Bool
  deriving DecidableEq
def e_ref07_Cell (x : ref07_Cell) : Dat := .agg [.val (.string (bs x.fS)), .val (.string (bs x.fRaw)), .val (.bool x.fKept)]
structure ref08_Row where
  fCells : List ref07_Cell
  fEnd : Int
  fHidden : Bool
  deriving DecidableEq
def e_ref08_Row (x : ref08_Row) : Dat := .agg [.sl 3 (List.map e_ref07_Cell x.fCells), .val (.int .i64 x.fEnd), .val (.bool x.fHidden)]
structure ref11_Grid where
  fRows : List ref08_Row
  fTail : Bool
  fEnd : Int
  deriving DecidableEq
noncomputable def rfA7_0 : Code := lft (lft (rgt (lft (rgt (rgt (rgt (Tryz.f7.body.getD .skip)))))))
noncomputable def rfB7_0 : Code := rgt (lft (rgt (lft (rgt (rgt (rgt (Tryz.f7.body.getD .skip)))))))
noncomputable def rfA46_0 : Code := lft (lft (rgt (rgt (Tryz.f46.body.getD .skip))))
noncomputable def rfB46_0 : Code := rgt (lft (rgt (rgt (Tryz.f46.body.getD .skip))))
structure wFr where
  fN : Option NP
  fFirst : Int
  fNext : Int

def e_wFr (x : wFr) : Dat := .agg [(eOP x.fN), .val (.int .i64 x.fFirst), .val (.int .i64 x.fNext)]
noncomputable def rfA44_0 : Code := lft (lft (rgt (lft (rgt (Tryz.f44.body.getD .skip)))))
noncomputable def rfB44_0 : Code := rgt (lft (rgt (lft (rgt (Tryz.f44.body.getD .skip)))))
structure find_spot where
  fR : Int
  fC : Int
  deriving DecidableEq
noncomputable def rfA23_0 : Code := lft (lft (rgt (lft (rgt (rgt (rgt (Tryz.f23.body.getD .skip)))))))
noncomputable def rfB23_0 : Code := rgt (lft (rgt (lft (rgt (rgt (rgt (Tryz.f23.body.getD .skip)))))))
noncomputable def rfA22_0 : Code := lft (lft (rgt (lft (rgt (rgt (Tryz.f22.body.getD .skip))))))
noncomputable def rfB22_0 : Code := rgt (lft (rgt (lft (rgt (rgt (Tryz.f22.body.getD .skip))))))
structure ref17_Spot where
  fR : Int
  fC : Int
  deriving DecidableEq
def e_ref17_Spot (x : ref17_Spot) : Dat := .agg [.val (.int .i64 x.fR), .val (.int .i64 x.fC)]
noncomputable def rfA9_0 : Code := lft (lft (rgt (lft (rgt (rgt (rgt (rgt (Tryz.f9.body.getD .skip))))))))
noncomputable def rfB9_0 : Code := rgt (lft (rgt (lft (rgt (rgt (rgt (rgt (Tryz.f9.body.getD .skip))))))))
theorem beq_ref17_Spot (p q : ref17_Spot) : ((p.fR == q.fR) && ((p.fC == q.fC) && true)) = (p == q) := by
  rw [Bool.eq_iff_iff]; cases p; cases q; simp [ref17_Spot.mk.injEq, bs_toList]
noncomputable def rfA11_0 : Code := lft (lft (rgt (lft (rgt (rgt (Tryz.f11.body.getD .skip))))))
noncomputable def rfB11_0 : Code := rgt (lft (rgt (lft (rgt (rgt (Tryz.f11.body.getD .skip))))))
theorem drawsX : X.P.follows .mixedOrders = true := rfl
theorem fn3 : IsFn X 3 := ⟨Tryz.f3, Tryz.func3, by kernel_rfl, rfl⟩
theorem fn4 : IsFn X 4 := ⟨Tryz.f4, Tryz.func4, by kernel_rfl, rfl⟩
theorem fn5 : IsFn X 5 := ⟨Tryz.f5, Tryz.func5, by kernel_rfl, rfl⟩
theorem fn6 : IsFn X 6 := ⟨Tryz.f6, Tryz.func6, by kernel_rfl, rfl⟩
theorem fn7 : IsFn X 7 := ⟨Tryz.f7, Tryz.func7, by kernel_rfl, rfl⟩
theorem fn8 : IsFn X 8 := ⟨Tryz.f8, Tryz.func8, by kernel_rfl, rfl⟩
theorem fn9 : IsFn X 9 := ⟨Tryz.f9, Tryz.func9, by kernel_rfl, rfl⟩
theorem fn10 : IsFn X 10 := ⟨Tryz.f10, Tryz.func10, by kernel_rfl, rfl⟩
theorem fn11 : IsFn X 11 := ⟨Tryz.f11, Tryz.func11, by kernel_rfl, rfl⟩
theorem fn12 : IsFn X 12 := ⟨Tryz.f12, Tryz.func12, by kernel_rfl, rfl⟩
theorem fn13 : IsFn X 13 := ⟨Tryz.f13, Tryz.func13, by kernel_rfl, rfl⟩
theorem fn14 : IsFn X 14 := ⟨Tryz.f14, Tryz.func14, by kernel_rfl, rfl⟩
theorem fn15 : IsFn X 15 := ⟨Tryz.f15, Tryz.func15, by kernel_rfl, rfl⟩
theorem fn16 : IsFn X 16 := ⟨Tryz.f16, Tryz.func16, by kernel_rfl, rfl⟩
theorem fn17 : IsFn X 17 := ⟨Tryz.f17, Tryz.func17, by kernel_rfl, rfl⟩
theorem fn18 : IsFn X 18 := ⟨Tryz.f18, Tryz.func18, by kernel_rfl, rfl⟩
theorem fn19 : IsFn X 19 := ⟨Tryz.f19, Tryz.func19, by kernel_rfl, rfl⟩
theorem fn20 : IsFn X 20 := ⟨Tryz.f20, Tryz.func20, by kernel_rfl, rfl⟩
theorem fn21 : IsFn X 21 := ⟨Tryz.f21, Tryz.func21, by kernel_rfl, rfl⟩
theorem fn22 : IsFn X 22 := ⟨Tryz.f22, Tryz.func22, by kernel_rfl, rfl⟩
theorem fn23 : IsFn X 23 := ⟨Tryz.f23, Tryz.func23, by kernel_rfl, rfl⟩
theorem fn24 : IsFn X 24 := ⟨Tryz.f24, Tryz.func24, by kernel_rfl, rfl⟩
theorem fn25 : IsFn X 25 := ⟨Tryz.f25, Tryz.func25, by kernel_rfl, rfl⟩
theorem fn26 : IsFn X 26 := ⟨Tryz.f26, Tryz.func26, by kernel_rfl, rfl⟩
theorem fn27 : IsFn X 27 := ⟨Tryz.f27, Tryz.func27, by kernel_rfl, rfl⟩
theorem fn28 : IsFn X 28 := ⟨Tryz.f28, Tryz.func28, by kernel_rfl, rfl⟩
theorem fn29 : IsFn X 29 := ⟨Tryz.f29, Tryz.func29, by kernel_rfl, rfl⟩
theorem fn30 : IsFn X 30 := ⟨Tryz.f30, Tryz.func30, by kernel_rfl, rfl⟩
theorem fn31 : IsFn X 31 := ⟨Tryz.f31, Tryz.func31, by kernel_rfl, rfl⟩
theorem fn32 : IsFn X 32 := ⟨Tryz.f32, Tryz.func32, by kernel_rfl, rfl⟩
theorem fn33 : IsFn X 33 := ⟨Tryz.f33, Tryz.func33, by kernel_rfl, rfl⟩
theorem fn34 : IsFn X 34 := ⟨Tryz.f34, Tryz.func34, by kernel_rfl, rfl⟩
theorem fn35 : IsFn X 35 := ⟨Tryz.f35, Tryz.func35, by kernel_rfl, rfl⟩
theorem fn36 : IsFn X 36 := ⟨Tryz.f36, Tryz.func36, by kernel_rfl, rfl⟩
theorem fn37 : IsFn X 37 := ⟨Tryz.f37, Tryz.func37, by kernel_rfl, rfl⟩
theorem fn38 : IsFn X 38 := ⟨Tryz.f38, Tryz.func38, by kernel_rfl, rfl⟩
theorem fn39 : IsFn X 39 := ⟨Tryz.f39, Tryz.func39, by kernel_rfl, rfl⟩
theorem fn40 : IsFn X 40 := ⟨Tryz.f40, Tryz.func40, by kernel_rfl, rfl⟩
theorem fn41 : IsFn X 41 := ⟨Tryz.f41, Tryz.func41, by kernel_rfl, rfl⟩
theorem fn42 : IsFn X 42 := ⟨Tryz.f42, Tryz.func42, by kernel_rfl, rfl⟩
theorem fn43 : IsFn X 43 := ⟨Tryz.f43, Tryz.func43, by kernel_rfl, rfl⟩
theorem fn44 : IsFn X 44 := ⟨Tryz.f44, Tryz.func44, by kernel_rfl, rfl⟩
theorem fn45 : IsFn X 45 := ⟨Tryz.f45, Tryz.func45, by kernel_rfl, rfl⟩
theorem fn46 : IsFn X 46 := ⟨Tryz.f46, Tryz.func46, by kernel_rfl, rfl⟩
theorem fn47 : IsFn X 47 := ⟨Tryz.f47, Tryz.func47, by kernel_rfl, rfl⟩
theorem fn48 : IsFn X 48 := ⟨Tryz.f48, Tryz.func48, by kernel_rfl, rfl⟩
theorem fn49 : IsFn X 49 := ⟨Tryz.f49, Tryz.func49, by kernel_rfl, rfl⟩
theorem fn50 : IsFn X 50 := ⟨Tryz.f50, Tryz.func50, by kernel_rfl, rfl⟩
theorem fn51 : IsFn X 51 := ⟨Tryz.f51, Tryz.func51, by kernel_rfl, rfl⟩
theorem fn52 : IsFn X 52 := ⟨Tryz.f52, Tryz.func52, by kernel_rfl, rfl⟩
theorem fn53 : IsFn X 53 := ⟨Tryz.f53, Tryz.func53, by kernel_rfl, rfl⟩
theorem fn54 : IsFn X 54 := ⟨Tryz.f54, Tryz.func54, by kernel_rfl, rfl⟩
theorem fn55 : IsFn X 55 := ⟨Tryz.f55, Tryz.func55, by kernel_rfl, rfl⟩
theorem fn56 : IsFn X 56 := ⟨Tryz.f56, Tryz.func56, by kernel_rfl, rfl⟩
theorem fn57 : IsFn X 57 := ⟨Tryz.f57, Tryz.func57, by kernel_rfl, rfl⟩
theorem fn58 : IsFn X 58 := ⟨Tryz.f58, Tryz.func58, by kernel_rfl, rfl⟩
theorem fn59 : IsFn X 59 := ⟨Tryz.f59, Tryz.func59, by kernel_rfl, rfl⟩
theorem fn60 : IsFn X 60 := ⟨Tryz.f60, Tryz.func60, by kernel_rfl, rfl⟩
theorem fn61 : IsFn X 61 := ⟨Tryz.f61, Tryz.func61, by kernel_rfl, rfl⟩
theorem fn62 : IsFn X 62 := ⟨Tryz.f62, Tryz.func62, by kernel_rfl, rfl⟩
theorem fn63 : IsFn X 63 := ⟨Tryz.f63, Tryz.func63, by kernel_rfl, rfl⟩
theorem fn64 : IsFn X 64 := ⟨Tryz.f64, Tryz.func64, by kernel_rfl, rfl⟩
theorem fn65 : IsFn X 65 := ⟨Tryz.f65, Tryz.func65, by kernel_rfl, rfl⟩
theorem fn66 : IsFn X 66 := ⟨Tryz.f66, Tryz.func66, by kernel_rfl, rfl⟩
theorem fn67 : IsFn X 67 := ⟨Tryz.f67, Tryz.func67, by kernel_rfl, rfl⟩
theorem fn68 : IsFn X 68 := ⟨Tryz.f68, Tryz.func68, by kernel_rfl, rfl⟩
theorem fn69 : IsFn X 69 := ⟨Tryz.f69, Tryz.func69, by kernel_rfl, rfl⟩
theorem fn70 : IsFn X 70 := ⟨Tryz.f70, Tryz.func70, by kernel_rfl, rfl⟩
theorem fn71 : IsFn X 71 := ⟨Tryz.f71, Tryz.func71, by kernel_rfl, rfl⟩
theorem fn72 : IsFn X 72 := ⟨Tryz.f72, Tryz.func72, by kernel_rfl, rfl⟩
theorem fn73 : IsFn X 73 := ⟨Tryz.f73, Tryz.func73, by kernel_rfl, rfl⟩
theorem fn74 : IsFn X 74 := ⟨Tryz.f74, Tryz.func74, by kernel_rfl, rfl⟩
theorem fn75 : IsFn X 75 := ⟨Tryz.f75, Tryz.func75, by kernel_rfl, rfl⟩
theorem fn76 : IsFn X 76 := ⟨Tryz.f76, Tryz.func76, by kernel_rfl, rfl⟩
theorem fn77 : IsFn X 77 := ⟨Tryz.f77, Tryz.func77, by kernel_rfl, rfl⟩
theorem fn78 : IsFn X 78 := ⟨Tryz.f78, Tryz.func78, by kernel_rfl, rfl⟩
theorem fn79 : IsFn X 79 := ⟨Tryz.f79, Tryz.func79, by kernel_rfl, rfl⟩
theorem fn80 : IsFn X 80 := ⟨Tryz.f80, Tryz.func80, by kernel_rfl, rfl⟩
theorem fn81 : IsFn X 81 := ⟨Tryz.f81, Tryz.func81, by kernel_rfl, rfl⟩
theorem fn82 : IsFn X 82 := ⟨Tryz.f82, Tryz.func82, by kernel_rfl, rfl⟩
theorem fn83 : IsFn X 83 := ⟨Tryz.f83, Tryz.func83, by kernel_rfl, rfl⟩
theorem fn84 : IsFn X 84 := ⟨Tryz.f84, Tryz.func84, by kernel_rfl, rfl⟩
theorem fn85 : IsFn X 85 := ⟨Tryz.f85, Tryz.func85, by kernel_rfl, rfl⟩
theorem fn86 : IsFn X 86 := ⟨Tryz.f86, Tryz.func86, by kernel_rfl, rfl⟩
theorem fn87 : IsFn X 87 := ⟨Tryz.f87, Tryz.func87, by kernel_rfl, rfl⟩
theorem fn88 : IsFn X 88 := ⟨Tryz.f88, Tryz.func88, by kernel_rfl, rfl⟩
theorem fn89 : IsFn X 89 := ⟨Tryz.f89, Tryz.func89, by kernel_rfl, rfl⟩
theorem fn90 : IsFn X 90 := ⟨Tryz.f90, Tryz.func90, by kernel_rfl, rfl⟩
theorem fn91 : IsFn X 91 := ⟨Tryz.f91, Tryz.func91, by kernel_rfl, rfl⟩
theorem fn92 : IsFn X 92 := ⟨Tryz.f92, Tryz.func92, by kernel_rfl, rfl⟩
theorem fn93 : IsFn X 93 := ⟨Tryz.f93, Tryz.func93, by kernel_rfl, rfl⟩
theorem fn94 : IsFn X 94 := ⟨Tryz.f94, Tryz.func94, by kernel_rfl, rfl⟩
theorem fn95 : IsFn X 95 := ⟨Tryz.f95, Tryz.func95, by kernel_rfl, rfl⟩
theorem fn96 : IsFn X 96 := ⟨Tryz.f96, Tryz.func96, by kernel_rfl, rfl⟩
theorem fn97 : IsFn X 97 := ⟨Tryz.f97, Tryz.func97, by kernel_rfl, rfl⟩
theorem fn98 : IsFn X 98 := ⟨Tryz.f98, Tryz.func98, by kernel_rfl, rfl⟩
theorem fn99 : IsFn X 99 := ⟨Tryz.f99, Tryz.func99, by kernel_rfl, rfl⟩
theorem fn100 : IsFn X 100 := ⟨Tryz.f100, Tryz.func100, by kernel_rfl, rfl⟩
theorem fn101 : IsFn X 101 := ⟨Tryz.f101, Tryz.func101, by kernel_rfl, rfl⟩
theorem fn102 : IsFn X 102 := ⟨Tryz.f102, Tryz.func102, by kernel_rfl, rfl⟩
theorem fn103 : IsFn X 103 := ⟨Tryz.f103, Tryz.func103, by kernel_rfl, rfl⟩
end Go.Proofs.YtbcbggdgkdfciaaGreat.S
