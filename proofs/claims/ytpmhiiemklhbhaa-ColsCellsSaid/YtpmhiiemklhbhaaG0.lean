/- Printed by a program of this session's own (gen.py): Lean functions for Go functions, and the proofs that the Go code comes to their answers. -/
import Derived.Test.YtpmhiiemklhbhaaSL
set_option linter.unusedVariables false
set_option linter.unusedSimpArgs false
set_option maxRecDepth 20000
namespace Go.Proofs.Ytpmhiiemklhbhaa.S
open Go Go.Sm
structure tree_Tree_damier_row_Row where
  fRoot : Option NP

structure grid_Grid where
  fRows : tree_Tree_damier_row_Row
  fTail : Bool
  fEnd : Int

structure arena_Span where
  fAt : Int
  fN : Int
  deriving DecidableEq
def e_arena_Span (x : arena_Span) : Dat := .agg [.val (.int .i64 x.fAt), .val (.int .i64 x.fN)]
theorem beq_arena_Span (p q : arena_Span) : ((p.fAt == q.fAt) && ((p.fN == q.fN) && true)) = (p == q) := by
  rw [Bool.eq_iff_iff]; cases p; cases q; simp [arena_Span.mk.injEq, bs_toList]
structure scan_Field where
  fRaw : arena_Span
  fKind : Int
  fParts : List arena_Span
  deriving DecidableEq
def e_scan_Field (x : scan_Field) : Dat := .agg [.val (.int .i64 x.fRaw.fAt), .val (.int .i64 x.fRaw.fN), .val (.int .i64 x.fKind), .sl 2 (List.map e_arena_Span x.fParts)]
structure scan_Row where
  fFields : List scan_Field
  fEnd : Int
  deriving DecidableEq
def e_scan_Row (x : scan_Row) : Dat := .agg [.sl 4 (List.map e_scan_Field x.fFields), .val (.int .i64 x.fEnd)]
structure piece_Text where
  fL : List arena_Span
  fN : Int
  deriving DecidableEq
structure cell_Cell where
  fText : piece_Text
  fRaw : arena_Span
  fKept : Bool
  deriving DecidableEq
structure row_Row where
  fCells : List cell_Cell
  fEnd : Int
  fHidden : Bool
  deriving DecidableEq
def e_cell_Cell (x : cell_Cell) : Dat := .agg [.sl 2 (List.map e_arena_Span x.fText.fL), .val (.int .i64 x.fText.fN), .val (.int .i64 x.fRaw.fAt), .val (.int .i64 x.fRaw.fN), .val (.bool x.fKept)]
def e_row_Row (x : row_Row) : Dat := .agg [.sl 5 (List.map e_cell_Cell x.fCells), .val (.int .i64 x.fEnd), .val (.bool x.fHidden)]
def e_sl81 (x : List row_Row) : Dat := .sl 3 (List.map e_row_Row x)
structure tree_Node_damier_row_Row where
  fKids : List NP
  fItems : List row_Row
  fN : Int

def d_arena_Span : Dat → Option arena_Span
  | .agg [p0, p1] => bnd ((dI .i64) p0) fun y0 => bnd ((dI .i64) p1) fun y1 => some ⟨y0, y1⟩
  | _ => none
theorem d_arena_Span_eq {x : Dat} {y : arena_Span} (h : d_arena_Span x = some y) : x = e_arena_Span y := by
  unfold d_arena_Span at h
  split at h
  · obtain ⟨y0, h0, h⟩ := bnd_some h; obtain ⟨y1, h1, h⟩ := bnd_some h
    cases h
    obtain rfl := dI_eq h0; obtain rfl := dI_eq h1
    rfl
  · cases h
theorem d_arena_Span_e (y : arena_Span) : d_arena_Span (e_arena_Span y) = some y := by simp only [d_arena_Span, e_arena_Span, bnd_r, dI_r]
def d_cell_Cell : Dat → Option cell_Cell
  | .agg [p0, p1, p2, p3, p4] => bnd ((dL 2 d_arena_Span) p0) fun y0 => bnd ((dI .i64) p1) fun y1 => bnd ((dI .i64) p2) fun y2 => bnd ((dI .i64) p3) fun y3 => bnd (dB p4) fun y4 => some ⟨⟨y0, y1⟩, ⟨y2, y3⟩, y4⟩
  | _ => none
theorem d_cell_Cell_eq {x : Dat} {y : cell_Cell} (h : d_cell_Cell x = some y) : x = e_cell_Cell y := by
  unfold d_cell_Cell at h
  split at h
  · obtain ⟨y0, h0, h⟩ := bnd_some h; obtain ⟨y1, h1, h⟩ := bnd_some h; obtain ⟨y2, h2, h⟩ := bnd_some h; obtain ⟨y3, h3, h⟩ := bnd_some h; obtain ⟨y4, h4, h⟩ := bnd_some h
    cases h
    obtain rfl := (dL_eq d_arena_Span_eq) h0; obtain rfl := dI_eq h1; obtain rfl := dI_eq h2; obtain rfl := dI_eq h3; obtain rfl := dB_eq h4
    rfl
  · cases h
theorem d_cell_Cell_e (y : cell_Cell) : d_cell_Cell (e_cell_Cell y) = some y := by simp only [d_cell_Cell, e_cell_Cell, bnd_r, dB_r, dI_r, dL_e d_arena_Span_e]
def d_row_Row : Dat → Option row_Row
  | .agg [p0, p1, p2] => bnd ((dL 5 d_cell_Cell) p0) fun y0 => bnd ((dI .i64) p1) fun y1 => bnd (dB p2) fun y2 => some ⟨y0, y1, y2⟩
  | _ => none
theorem d_row_Row_eq {x : Dat} {y : row_Row} (h : d_row_Row x = some y) : x = e_row_Row y := by
  unfold d_row_Row at h
  split at h
  · obtain ⟨y0, h0, h⟩ := bnd_some h; obtain ⟨y1, h1, h⟩ := bnd_some h; obtain ⟨y2, h2, h⟩ := bnd_some h
    cases h
    obtain rfl := (dL_eq d_cell_Cell_eq) h0; obtain rfl := dI_eq h1; obtain rfl := dB_eq h2
    rfl
  · cases h
theorem d_row_Row_e (y : row_Row) : d_row_Row (e_row_Row y) = some y := by simp only [d_row_Row, e_row_Row, bnd_r, dB_r, dI_r, dL_e d_cell_Cell_e]
def c_tree_Node_damier_row_Row (y : tree_Node_damier_row_Row) : NP := ⟨[.sl 1 (List.map eNP y.fKids), .sl 3 (List.map e_row_Row y.fItems), .val (.int .i64 y.fN)]⟩
def o_tree_Node_damier_row_Row : NP → Option tree_Node_damier_row_Row
  | ⟨[p0, p1, p2]⟩ => bnd ((dL 1 dNP) p0) fun y0 => bnd ((dL 3 d_row_Row) p1) fun y1 => bnd ((dI .i64) p2) fun y2 => some ⟨y0, y1, y2⟩
  | _ => none
theorem o_tree_Node_damier_row_Row_eq {x : NP} {y : tree_Node_damier_row_Row} (h : o_tree_Node_damier_row_Row x = some y) : x = c_tree_Node_damier_row_Row y := by
  unfold o_tree_Node_damier_row_Row at h
  split at h
  · obtain ⟨y0, h0, h⟩ := bnd_some h; obtain ⟨y1, h1, h⟩ := bnd_some h; obtain ⟨y2, h2, h⟩ := bnd_some h
    cases h
    obtain rfl := (dL_eq dNP_eq) h0; obtain rfl := (dL_eq d_row_Row_eq) h1; obtain rfl := dI_eq h2
    rfl
  · cases h
theorem o_tree_Node_damier_row_Row_c (y : tree_Node_damier_row_Row) : o_tree_Node_damier_row_Row (c_tree_Node_damier_row_Row y) = some y := by simp only [o_tree_Node_damier_row_Row, c_tree_Node_damier_row_Row, bnd_r, dI_r, dL_e dNP_e, dL_e d_row_Row_e]
def e_sl118 (x : List NP) : Dat := .sl 1 (List.map eNP x)
structure ref03_Span where
  fAt : Int
  fN : Int
  deriving DecidableEq
structure ref05_Field where
  fRaw : ref03_Span
  fKind : Int
  fBytes : List Int
  deriving DecidableEq
def e_ref05_Field (x : ref05_Field) : Dat := .agg [.val (.int .i64 x.fRaw.fAt), .val (.int .i64 x.fRaw.fN), .val (.int .i64 x.fKind), .sl 1 (List.map (eI .i64) x.fBytes)]
structure ref05_Row where
  fFields : List ref05_Field
  fEnd : Int
  deriving DecidableEq
def e_ref05_Row (x : ref05_Row) : Dat := .agg [.sl 4 (List.map e_ref05_Field x.fFields), .val (.int .i64 x.fEnd)]
structure ref07_Cell where
  fS : List UInt8
  fRaw : List UInt8
  fKept : Bool
  deriving DecidableEq
def e_ref07_Cell (x : ref07_Cell) : Dat := .agg [.val (.string (bs x.fS)), .val (.string (bs x.fRaw)), .val (.bool x.fKept)]
structure ref08_Row where
  fCells : List ref07_Cell
  fEnd : Int
  fHidden : Bool
  deriving DecidableEq
def e_ref08_Row (x : ref08_Row) : Dat := .agg [.sl 3 (List.map e_ref07_Cell x.fCells), .val (.int .i64 x.fEnd), .val (.bool x.fHidden)]
structure ref11_Grid where
  fRows : List ref08_Row
  fTail : Bool
  fEnd : Int
  deriving DecidableEq
noncomputable def rfA30_0 : Code := lft (lft (rgt (lft (rgt (rgt (Try.f30.body.getD .skip))))))
noncomputable def rfB30_0 : Code := rgt (lft (rgt (lft (rgt (rgt (Try.f30.body.getD .skip))))))
structure walk_frame_damier_row_Row where
  fN : Option NP
  fFirst : Int
  fNext : Int

def e_walk_frame_damier_row_Row (x : walk_frame_damier_row_Row) : Dat := .agg [(eOP x.fN), .val (.int .i64 x.fFirst), .val (.int .i64 x.fNext)]
noncomputable def rfA67_0 : Code := lft (lft (rgt (lft (rgt (rgt (Try.f67.body.getD .skip))))))
noncomputable def rfB67_0 : Code := rgt (lft (rgt (lft (rgt (rgt (Try.f67.body.getD .skip))))))
noncomputable def rfA13_0 : Code := lft (lft (rgt (lft (rgt (rgt (Try.f13.body.getD .skip))))))
noncomputable def rfB13_0 : Code := rgt (lft (rgt (lft (rgt (rgt (Try.f13.body.getD .skip))))))
noncomputable def rfA37_0 : Code := lft (lft (rgt (lft (rgt (Try.f37.body.getD .skip)))))
noncomputable def rfB37_0 : Code := rgt (lft (rgt (lft (rgt (Try.f37.body.getD .skip)))))
noncomputable def rfA7_0 : Code := lft (lft (rgt (lft (rgt (rgt (Try.f7.body.getD .skip))))))
noncomputable def rfB7_0 : Code := rgt (lft (rgt (lft (rgt (rgt (Try.f7.body.getD .skip))))))
theorem beq_ref07_Cell (p q : ref07_Cell) : (((bs p.fS).toList == (bs q.fS).toList) && (((bs p.fRaw).toList == (bs q.fRaw).toList) && ((p.fKept == q.fKept) && true))) = (p == q) := by
  rw [Bool.eq_iff_iff]; cases p; cases q; simp [ref07_Cell.mk.injEq, bs_toList]
theorem drawsX : X.P.follows .mixedOrders = true := rfl
theorem fn3 : IsFn X 3 := ⟨Try.f3, Try.func3, by kernel_rfl, rfl⟩
theorem fn4 : IsFn X 4 := ⟨Try.f4, Try.func4, by kernel_rfl, rfl⟩
theorem fn5 : IsFn X 5 := ⟨Try.f5, Try.func5, by kernel_rfl, rfl⟩
theorem fn6 : IsFn X 6 := ⟨Try.f6, Try.func6, by kernel_rfl, rfl⟩
theorem fn7 : IsFn X 7 := ⟨Try.f7, Try.func7, by kernel_rfl, rfl⟩
theorem fn8 : IsFn X 8 := ⟨Try.f8, Try.func8, by kernel_rfl, rfl⟩
theorem fn9 : IsFn X 9 := ⟨Try.f9, Try.func9, by kernel_rfl, rfl⟩
theorem fn10 : IsFn X 10 := ⟨Try.f10, Try.func10, by kernel_rfl, rfl⟩
theorem fn11 : IsFn X 11 := ⟨Try.f11, Try.func11, by kernel_rfl, rfl⟩
theorem fn12 : IsFn X 12 := ⟨Try.f12, Try.func12, by kernel_rfl, rfl⟩
theorem fn13 : IsFn X 13 := ⟨Try.f13, Try.func13, by kernel_rfl, rfl⟩
theorem fn14 : IsFn X 14 := ⟨Try.f14, Try.func14, by kernel_rfl, rfl⟩
theorem fn15 : IsFn X 15 := ⟨Try.f15, Try.func15, by kernel_rfl, rfl⟩
theorem fn16 : IsFn X 16 := ⟨Try.f16, Try.func16, by kernel_rfl, rfl⟩
theorem fn17 : IsFn X 17 := ⟨Try.f17, Try.func17, by kernel_rfl, rfl⟩
theorem fn18 : IsFn X 18 := ⟨Try.f18, Try.func18, by kernel_rfl, rfl⟩
theorem fn19 : IsFn X 19 := ⟨Try.f19, Try.func19, by kernel_rfl, rfl⟩
theorem fn20 : IsFn X 20 := ⟨Try.f20, Try.func20, by kernel_rfl, rfl⟩
theorem fn21 : IsFn X 21 := ⟨Try.f21, Try.func21, by kernel_rfl, rfl⟩
theorem fn22 : IsFn X 22 := ⟨Try.f22, Try.func22, by kernel_rfl, rfl⟩
theorem fn23 : IsFn X 23 := ⟨Try.f23, Try.func23, by kernel_rfl, rfl⟩
theorem fn24 : IsFn X 24 := ⟨Try.f24, Try.func24, by kernel_rfl, rfl⟩
theorem fn25 : IsFn X 25 := ⟨Try.f25, Try.func25, by kernel_rfl, rfl⟩
theorem fn26 : IsFn X 26 := ⟨Try.f26, Try.func26, by kernel_rfl, rfl⟩
theorem fn27 : IsFn X 27 := ⟨Try.f27, Try.func27, by kernel_rfl, rfl⟩
theorem fn28 : IsFn X 28 := ⟨Try.f28, Try.func28, by kernel_rfl, rfl⟩
theorem fn29 : IsFn X 29 := ⟨Try.f29, Try.func29, by kernel_rfl, rfl⟩
theorem fn30 : IsFn X 30 := ⟨Try.f30, Try.func30, by kernel_rfl, rfl⟩
theorem fn31 : IsFn X 31 := ⟨Try.f31, Try.func31, by kernel_rfl, rfl⟩
theorem fn32 : IsFn X 32 := ⟨Try.f32, Try.func32, by kernel_rfl, rfl⟩
theorem fn33 : IsFn X 33 := ⟨Try.f33, Try.func33, by kernel_rfl, rfl⟩
theorem fn34 : IsFn X 34 := ⟨Try.f34, Try.func34, by kernel_rfl, rfl⟩
theorem fn35 : IsFn X 35 := ⟨Try.f35, Try.func35, by kernel_rfl, rfl⟩
theorem fn36 : IsFn X 36 := ⟨Try.f36, Try.func36, by kernel_rfl, rfl⟩
theorem fn37 : IsFn X 37 := ⟨Try.f37, Try.func37, by kernel_rfl, rfl⟩
theorem fn38 : IsFn X 38 := ⟨Try.f38, Try.func38, by kernel_rfl, rfl⟩
theorem fn39 : IsFn X 39 := ⟨Try.f39, Try.func39, by kernel_rfl, rfl⟩
theorem fn40 : IsFn X 40 := ⟨Try.f40, Try.func40, by kernel_rfl, rfl⟩
theorem fn41 : IsFn X 41 := ⟨Try.f41, Try.func41, by kernel_rfl, rfl⟩
theorem fn42 : IsFn X 42 := ⟨Try.f42, Try.func42, by kernel_rfl, rfl⟩
theorem fn43 : IsFn X 43 := ⟨Try.f43, Try.func43, by kernel_rfl, rfl⟩
theorem fn44 : IsFn X 44 := ⟨Try.f44, Try.func44, by kernel_rfl, rfl⟩
theorem fn45 : IsFn X 45 := ⟨Try.f45, Try.func45, by kernel_rfl, rfl⟩
theorem fn46 : IsFn X 46 := ⟨Try.f46, Try.func46, by kernel_rfl, rfl⟩
theorem fn47 : IsFn X 47 := ⟨Try.f47, Try.func47, by kernel_rfl, rfl⟩
theorem fn48 : IsFn X 48 := ⟨Try.f48, Try.func48, by kernel_rfl, rfl⟩
theorem fn49 : IsFn X 49 := ⟨Try.f49, Try.func49, by kernel_rfl, rfl⟩
theorem fn50 : IsFn X 50 := ⟨Try.f50, Try.func50, by kernel_rfl, rfl⟩
theorem fn51 : IsFn X 51 := ⟨Try.f51, Try.func51, by kernel_rfl, rfl⟩
theorem fn52 : IsFn X 52 := ⟨Try.f52, Try.func52, by kernel_rfl, rfl⟩
theorem fn53 : IsFn X 53 := ⟨Try.f53, Try.func53, by kernel_rfl, rfl⟩
theorem fn54 : IsFn X 54 := ⟨Try.f54, Try.func54, by kernel_rfl, rfl⟩
theorem fn55 : IsFn X 55 := ⟨Try.f55, Try.func55, by kernel_rfl, rfl⟩
theorem fn56 : IsFn X 56 := ⟨Try.f56, Try.func56, by kernel_rfl, rfl⟩
theorem fn57 : IsFn X 57 := ⟨Try.f57, Try.func57, by kernel_rfl, rfl⟩
theorem fn58 : IsFn X 58 := ⟨Try.f58, Try.func58, by kernel_rfl, rfl⟩
theorem fn59 : IsFn X 59 := ⟨Try.f59, Try.func59, by kernel_rfl, rfl⟩
theorem fn60 : IsFn X 60 := ⟨Try.f60, Try.func60, by kernel_rfl, rfl⟩
theorem fn61 : IsFn X 61 := ⟨Try.f61, Try.func61, by kernel_rfl, rfl⟩
theorem fn62 : IsFn X 62 := ⟨Try.f62, Try.func62, by kernel_rfl, rfl⟩
theorem fn63 : IsFn X 63 := ⟨Try.f63, Try.func63, by kernel_rfl, rfl⟩
theorem fn64 : IsFn X 64 := ⟨Try.f64, Try.func64, by kernel_rfl, rfl⟩
theorem fn65 : IsFn X 65 := ⟨Try.f65, Try.func65, by kernel_rfl, rfl⟩
theorem fn66 : IsFn X 66 := ⟨Try.f66, Try.func66, by kernel_rfl, rfl⟩
theorem fn67 : IsFn X 67 := ⟨Try.f67, Try.func67, by kernel_rfl, rfl⟩
theorem fn68 : IsFn X 68 := ⟨Try.f68, Try.func68, by kernel_rfl, rfl⟩
theorem fn69 : IsFn X 69 := ⟨Try.f69, Try.func69, by kernel_rfl, rfl⟩
theorem fn70 : IsFn X 70 := ⟨Try.f70, Try.func70, by kernel_rfl, rfl⟩
theorem fn71 : IsFn X 71 := ⟨Try.f71, Try.func71, by kernel_rfl, rfl⟩
theorem fn72 : IsFn X 72 := ⟨Try.f72, Try.func72, by kernel_rfl, rfl⟩
theorem fn73 : IsFn X 73 := ⟨Try.f73, Try.func73, by kernel_rfl, rfl⟩
theorem fn74 : IsFn X 74 := ⟨Try.f74, Try.func74, by kernel_rfl, rfl⟩
theorem fn75 : IsFn X 75 := ⟨Try.f75, Try.func75, by kernel_rfl, rfl⟩
theorem fn76 : IsFn X 76 := ⟨Try.f76, Try.func76, by kernel_rfl, rfl⟩
theorem fn77 : IsFn X 77 := ⟨Try.f77, Try.func77, by kernel_rfl, rfl⟩
theorem fn78 : IsFn X 78 := ⟨Try.f78, Try.func78, by kernel_rfl, rfl⟩
theorem fn79 : IsFn X 79 := ⟨Try.f79, Try.func79, by kernel_rfl, rfl⟩
theorem fn80 : IsFn X 80 := ⟨Try.f80, Try.func80, by kernel_rfl, rfl⟩
theorem fn81 : IsFn X 81 := ⟨Try.f81, Try.func81, by kernel_rfl, rfl⟩
theorem fn82 : IsFn X 82 := ⟨Try.f82, Try.func82, by kernel_rfl, rfl⟩
theorem fn83 : IsFn X 83 := ⟨Try.f83, Try.func83, by kernel_rfl, rfl⟩
theorem fn84 : IsFn X 84 := ⟨Try.f84, Try.func84, by kernel_rfl, rfl⟩
theorem fn85 : IsFn X 85 := ⟨Try.f85, Try.func85, by kernel_rfl, rfl⟩
theorem fn86 : IsFn X 86 := ⟨Try.f86, Try.func86, by kernel_rfl, rfl⟩
theorem fn87 : IsFn X 87 := ⟨Try.f87, Try.func87, by kernel_rfl, rfl⟩
theorem fn88 : IsFn X 88 := ⟨Try.f88, Try.func88, by kernel_rfl, rfl⟩
theorem fn89 : IsFn X 89 := ⟨Try.f89, Try.func89, by kernel_rfl, rfl⟩
theorem fn90 : IsFn X 90 := ⟨Try.f90, Try.func90, by kernel_rfl, rfl⟩
theorem fn91 : IsFn X 91 := ⟨Try.f91, Try.func91, by kernel_rfl, rfl⟩
theorem fn92 : IsFn X 92 := ⟨Try.f92, Try.func92, by kernel_rfl, rfl⟩
theorem fn93 : IsFn X 93 := ⟨Try.f93, Try.func93, by kernel_rfl, rfl⟩
theorem fn94 : IsFn X 94 := ⟨Try.f94, Try.func94, by kernel_rfl, rfl⟩
theorem fn95 : IsFn X 95 := ⟨Try.f95, Try.func95, by kernel_rfl, rfl⟩
theorem fn96 : IsFn X 96 := ⟨Try.f96, Try.func96, by kernel_rfl, rfl⟩
end Go.Proofs.Ytpmhiiemklhbhaa.S
