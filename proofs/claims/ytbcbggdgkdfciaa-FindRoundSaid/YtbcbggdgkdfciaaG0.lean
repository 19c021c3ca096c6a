/- Printed by a program of this session's own (gen.py): Lean functions for Go functions, and the proofs that the Go code comes to their answers. -/
import Derived.Test.YtbcbggdgkdfciaaSL
set_option maxHeartbeats 4000000
set_option linter.unusedVariables false
set_option linter.unusedSimpArgs false
set_option maxRecDepth 20000
namespace Go.Proofs.Ytbcbggdgkdfciaa.S
open Go Go.Sm
structure tTr where
  fRoot : Option NP

structure grid_Grid where
  fRows : tTr
  fTail : Bool
  fEnd : Int

structure arena_Span where
  fAt : Int
  fN : Int
  deriving DecidableEq
def e_arena_Span (x : arena_Span) : Dat := .agg [.val (.int .i64 x.fAt), .val (.int .i64 x.fN)]
theorem beq_arena_Span (p q : arena_Span) : ((p.fAt == q.fAt) && ((p.fN == q.fN) && true)) = (p == q) := by
  rw [Bool.eq_iff_iff]; cases p; cases q; simp [arena_Span.mk.injEq, bs_toList]
structure scan_Field where
  fRaw : arena_Span
  fKind : Int
  fParts : List arena_Span
  deriving DecidableEq
def e_scan_Field (x : scan_Field) : Dat := .agg [.val (.int .i64 x.fRaw.fAt), .val (.int .i64 x.fRaw.fN), .val (.int .i64 x.fKind), .sl 2 (List.map e_arena_Span x.fParts)]
structure scan_Row where
  fFields : List scan_Field
  fEnd : Int
  deriving DecidableEq
def e_scan_Row (x : scan_Row) : Dat := .agg [.sl 4 (List.map e_scan_Field x.fFields), .val (.int .i64 x.fEnd)]
structure piece_Text where
  fL : List arena_Span
  fN : Int
  deriving DecidableEq
structure cell_Cell where
  fText : piece_Text
  fRaw : arena_Span
  fKept : Bool
  deriving DecidableEq
structure row_Row where
  fCells : List cell_Cell
  fEnd : Int
  fHidden : Bool
  deriving DecidableEq
def e_cell_Cell (x : cell_Cell) : Dat := .agg [.sl 2 (List.map e_arena_Span x.fText.fL), .val (.int .i64 x.fText.fN), .val (.int .i64 x.fRaw.fAt), .val (.int .i64 x.fRaw.fN), .val (.bool x.fKept)]
def e_row_Row (x : row_Row) : Dat := .agg [.sl 5 (List.map e_cell_Cell x.fCells), .val (.int .i64 x.fEnd), .val (.bool x.fHidden)]
def e_sl208 (x : List row_Row) : Dat := .sl 3 (List.map e_row_Row x)
structure tNd where
  fKids : List NP
  fItems : List row_Row
  fN : Int

def d_arena_Span : Dat → Option arena_Span
  | .agg [p0, p1] => bnd ((dI .i64) p0) fun y0 => bnd ((dI .i64) p1) fun y1 => some ⟨y0, y1⟩
  | _ => none
theorem d_arena_Span_eq {x : Dat} {y : arena_Span} (h : d_arena_Span x = some y) : x = e_arena_Span y := by
  unfold d_arena_Span at h
  split at h
  · obtain ⟨y0, h0, h⟩ := bnd_some h; obtain ⟨y1, h1, h⟩ := bnd_some h
    cases h
    obtain rfl := dI_eq h0; obtain rfl := dI_eq h1
    rfl
  · cases h
theorem d_arena_Span_e (y : arena_Span) : d_arena_Span (e_arena_Span y) = some y := by simp only [d_arena_Span, e_arena_Span, bnd_r, dI_r]
def d_cell_Cell : Dat → Option cell_Cell
  | .agg [p0, p1, p2, p3, p4] => bnd ((dL 2 d_arena_Span) p0) fun y0 => bnd ((dI .i64) p1) fun y1 => bnd ((dI .i64) p2) fun y2 => bnd ((dI .i64) p3) fun y3 => bnd (dB p4) fun y4 => some ⟨⟨y0, y1⟩, ⟨y2, y3⟩, y4⟩
  | _ => none
theorem d_cell_Cell_eq {x : Dat} {y : cell_Cell} (h : d_cell_Cell x = some y) : x = e_cell_Cell y := by
  unfold d_cell_Cell at h
  split at h
  · obtain ⟨y0, h0, h⟩ := bnd_some h; obtain ⟨y1, h1, h⟩ := bnd_some h; obtain ⟨y2, h2, h⟩ := bnd_some h; obtain ⟨y3, h3, h⟩ := bnd_some h; obtain ⟨y4, h4, h⟩ := bnd_some h
    cases h
    obtain rfl := (dL_eq d_arena_Span_eq) h0; obtain rfl := dI_eq h1; obtain rfl := dI_eq h2; obtain rfl := dI_eq h3; obtain rfl := dB_eq h4
    rfl
  · cases h
theorem d_cell_Cell_e (y : cell_Cell) : d_cell_Cell (e_cell_Cell y) = some y := by simp only [d_cell_Cell, e_cell_Cell, bnd_r, dB_r, dI_r, dL_e d_arena_Span_e]
def d_row_Row : Dat → Option row_Row
  | .agg [p0, p1, p2] => bnd ((dL 5 d_cell_Cell) p0) fun y0 => bnd ((dI .i64) p1) fun y1 => bnd (dB p2) fun y2 => some ⟨y0, y1, y2⟩
  | _ => none
theorem d_row_Row_eq {x : Dat} {y : row_Row} (h : d_row_Row x = some y) : x = e_row_Row y := by
  unfold d_row_Row at h
  split at h
  · obtain ⟨y0, h0, h⟩ := bnd_some h; obtain ⟨y1, h1, h⟩ := bnd_some h; obtain ⟨y2, h2, h⟩ := bnd_some h
    cases h
    obtain rfl := (dL_eq d_cell_Cell_eq) h0; obtain rfl := dI_eq h1; obtain rfl := dB_eq h2
    rfl
  · cases h
theorem d_row_Row_e (y : row_Row) : d_row_Row (e_row_Row y) = some y := by simp only [d_row_Row, e_row_Row, bnd_r, dB_r, dI_r, dL_e d_cell_Cell_e]
def c_tNd (y : tNd) : NP := ⟨[.sl 1 (List.map eNP y.fKids), .sl 3 (List.map e_row_Row y.fItems), .val (.int .i64 y.fN)]⟩
def o_tNd : NP → Option tNd
  | ⟨[p0, p1, p2]⟩ => bnd ((dL 1 dNP) p0) fun y0 => bnd ((dL 3 d_row_Row) p1) fun y1 => bnd ((dI .i64) p2) fun y2 => some ⟨y0, y1, y2⟩
  | _ => none
theorem o_tNd_eq {x : NP} {y : tNd} (h : o_tNd x = some y) : x = c_tNd y := by
  unfold o_tNd at h
  split at h
  · obtain ⟨y0, h0, h⟩ := bnd_some h; obtain ⟨y1, h1, h⟩ := bnd_some h; obtain ⟨y2, h2, h⟩ := bnd_some h
    cases h
    obtain rfl := (dL_eq dNP_eq) h0; obtain rfl := (dL_eq d_row_Row_eq) h1; obtain rfl := dI_eq h2
    rfl
  · cases h
theorem o_tNd_c (y : tNd) : o_tNd (c_tNd y) = some y := by simp only [o_tNd, c_tNd, bnd_r, dI_r, dL_e dNP_e, dL_e d_row_Row_e]
def e_sl246 (x : List NP) : Dat := .sl 1 (List.map eNP x)
structure ref03_Span where
  fAt : Int
  fN : Int
  deriving DecidableEq
structure ref05_Field where
  fRaw : ref03_Span
  fKind : Int
  fBytes : List Int
  deriving DecidableEq
def e_ref05_Field (x : ref05_Field) : Dat := .agg [.val (.int .i64 x.fRaw.fAt), .val (.int .i64 x.fRaw.fN), .val (.int .i64 x.fKind), .sl 1 (List.map (eI .i64) x.fBytes)]
structure ref05_Row where
  fFields : List ref05_Field
  fEnd : Int
  deriving DecidableEq
def e_ref05_Row (x : ref05_Row) : Dat := .agg [.sl 4 (List.map e_ref05_Field x.fFields), .val (.int .i64 x.fEnd)]
structure ref07_Cell where
  fS : List UInt8
  fRaw : List UInt8
  fKept : Bool
  deriving DecidableEq
def e_ref07_Cell (x : ref07_Cell) : Dat := .agg [.val (.string (bs x.fS)), .val (.string (bs x.fRaw)), .val (.bool x.fKept)]
structure ref08_Row where
  fCells : List ref07_Cell
  fEnd : Int
  fHidden : Bool
  deriving DecidableEq
def e_ref08_Row (x : ref08_Row) : Dat := .agg [.sl 3 (List.map e_ref07_Cell x.fCells), .val (.int .i64 x.fEnd), .val (.bool x.fHidden)]
structure ref11_Grid where
  fRows : List ref08_Row
  fTail : Bool
  fEnd : Int
  deriving DecidableEq
noncomputable def rfA57_0 : Code := lft (lft (rgt (lft (rgt (rgt (rgt (Try.f57.body.getD .skip)))))))
noncomputable def rfB57_0 : Code := rgt (lft (rgt (lft (rgt (rgt (rgt (Try.f57.body.getD .skip)))))))
noncomputable def rfA160_0 : Code := lft (lft (rgt (rgt (Try.f160.body.getD .skip))))
noncomputable def rfB160_0 : Code := rgt (lft (rgt (rgt (Try.f160.body.getD .skip))))
structure wFr where
  fN : Option NP
  fFirst : Int
  fNext : Int

def e_wFr (x : wFr) : Dat := .agg [(eOP x.fN), .val (.int .i64 x.fFirst), .val (.int .i64 x.fNext)]
noncomputable def rfA20_0 : Code := lft (lft (rgt (lft (rgt (Try.f20.body.getD .skip)))))
noncomputable def rfB20_0 : Code := rgt (lft (rgt (lft (rgt (Try.f20.body.getD .skip)))))
structure find_spot where
  fR : Int
  fC : Int
  deriving DecidableEq
noncomputable def rfA18_0 : Code := lft (lft (rgt (lft (rgt (rgt (rgt (Try.f18.body.getD .skip)))))))
noncomputable def rfB18_0 : Code := rgt (lft (rgt (lft (rgt (rgt (rgt (Try.f18.body.getD .skip)))))))
noncomputable def rfA16_0 : Code := lft (lft (rgt (lft (rgt (rgt (Try.f16.body.getD .skip))))))
noncomputable def rfB16_0 : Code := rgt (lft (rgt (lft (rgt (rgt (Try.f16.body.getD .skip))))))
noncomputable def rfA56_0 : Code := lft (lft (rgt (lft (rgt (rgt (Try.f56.body.getD .skip))))))
noncomputable def rfB56_0 : Code := rgt (lft (rgt (lft (rgt (rgt (Try.f56.body.getD .skip))))))
noncomputable def rfA58_0 : Code := lft (lft (rgt (lft (rgt (rgt (rgt (rgt (Try.f58.body.getD .skip))))))))
noncomputable def rfB58_0 : Code := rgt (lft (rgt (lft (rgt (rgt (rgt (rgt (Try.f58.body.getD .skip))))))))
structure ref17_Spot where
  fR : Int
  fC : Int
  deriving DecidableEq
theorem beq_ref17_Spot (p q : ref17_Spot) : ((p.fR == q.fR) && ((p.fC == q.fC) && true)) = (p == q) := by
  rw [Bool.eq_iff_iff]; cases p; cases q; simp [ref17_Spot.mk.injEq, bs_toList]
theorem drawsX : X.P.follows .mixedOrders = true := rfl
theorem fn9 : IsFn X 9 := ⟨Try.f9, Try.func9, by kernel_rfl, rfl⟩
theorem fn11 : IsFn X 11 := ⟨Try.f11, Try.func11, by kernel_rfl, rfl⟩
theorem fn12 : IsFn X 12 := ⟨Try.f12, Try.func12, by kernel_rfl, rfl⟩
theorem fn14 : IsFn X 14 := ⟨Try.f14, Try.func14, by kernel_rfl, rfl⟩
theorem fn15 : IsFn X 15 := ⟨Try.f15, Try.func15, by kernel_rfl, rfl⟩
theorem fn16 : IsFn X 16 := ⟨Try.f16, Try.func16, by kernel_rfl, rfl⟩
theorem fn18 : IsFn X 18 := ⟨Try.f18, Try.func18, by kernel_rfl, rfl⟩
theorem fn20 : IsFn X 20 := ⟨Try.f20, Try.func20, by kernel_rfl, rfl⟩
theorem fn25 : IsFn X 25 := ⟨Try.f25, Try.func25, by kernel_rfl, rfl⟩
theorem fn26 : IsFn X 26 := ⟨Try.f26, Try.func26, by kernel_rfl, rfl⟩
theorem fn27 : IsFn X 27 := ⟨Try.f27, Try.func27, by kernel_rfl, rfl⟩
theorem fn28 : IsFn X 28 := ⟨Try.f28, Try.func28, by kernel_rfl, rfl⟩
theorem fn29 : IsFn X 29 := ⟨Try.f29, Try.func29, by kernel_rfl, rfl⟩
theorem fn32 : IsFn X 32 := ⟨Try.f32, Try.func32, by kernel_rfl, rfl⟩
theorem fn37 : IsFn X 37 := ⟨Try.f37, Try.func37, by kernel_rfl, rfl⟩
theorem fn42 : IsFn X 42 := ⟨Try.f42, Try.func42, by kernel_rfl, rfl⟩
theorem fn46 : IsFn X 46 := ⟨Try.f46, Try.func46, by kernel_rfl, rfl⟩
theorem fn55 : IsFn X 55 := ⟨Try.f55, Try.func55, by kernel_rfl, rfl⟩
theorem fn56 : IsFn X 56 := ⟨Try.f56, Try.func56, by kernel_rfl, rfl⟩
theorem fn57 : IsFn X 57 := ⟨Try.f57, Try.func57, by kernel_rfl, rfl⟩
theorem fn58 : IsFn X 58 := ⟨Try.f58, Try.func58, by kernel_rfl, rfl⟩
theorem fn63 : IsFn X 63 := ⟨Try.f63, Try.func63, by kernel_rfl, rfl⟩
theorem fn64 : IsFn X 64 := ⟨Try.f64, Try.func64, by kernel_rfl, rfl⟩
theorem fn65 : IsFn X 65 := ⟨Try.f65, Try.func65, by kernel_rfl, rfl⟩
theorem fn66 : IsFn X 66 := ⟨Try.f66, Try.func66, by kernel_rfl, rfl⟩
theorem fn67 : IsFn X 67 := ⟨Try.f67, Try.func67, by kernel_rfl, rfl⟩
theorem fn68 : IsFn X 68 := ⟨Try.f68, Try.func68, by kernel_rfl, rfl⟩
theorem fn69 : IsFn X 69 := ⟨Try.f69, Try.func69, by kernel_rfl, rfl⟩
theorem fn71 : IsFn X 71 := ⟨Try.f71, Try.func71, by kernel_rfl, rfl⟩
theorem fn76 : IsFn X 76 := ⟨Try.f76, Try.func76, by kernel_rfl, rfl⟩
theorem fn81 : IsFn X 81 := ⟨Try.f81, Try.func81, by kernel_rfl, rfl⟩
theorem fn91 : IsFn X 91 := ⟨Try.f91, Try.func91, by kernel_rfl, rfl⟩
theorem fn102 : IsFn X 102 := ⟨Try.f102, Try.func102, by kernel_rfl, rfl⟩
theorem fn103 : IsFn X 103 := ⟨Try.f103, Try.func103, by kernel_rfl, rfl⟩
theorem fn104 : IsFn X 104 := ⟨Try.f104, Try.func104, by kernel_rfl, rfl⟩
theorem fn105 : IsFn X 105 := ⟨Try.f105, Try.func105, by kernel_rfl, rfl⟩
theorem fn106 : IsFn X 106 := ⟨Try.f106, Try.func106, by kernel_rfl, rfl⟩
theorem fn107 : IsFn X 107 := ⟨Try.f107, Try.func107, by kernel_rfl, rfl⟩
theorem fn108 : IsFn X 108 := ⟨Try.f108, Try.func108, by kernel_rfl, rfl⟩
theorem fn109 : IsFn X 109 := ⟨Try.f109, Try.func109, by kernel_rfl, rfl⟩
theorem fn114 : IsFn X 114 := ⟨Try.f114, Try.func114, by kernel_rfl, rfl⟩
theorem fn115 : IsFn X 115 := ⟨Try.f115, Try.func115, by kernel_rfl, rfl⟩
theorem fn116 : IsFn X 116 := ⟨Try.f116, Try.func116, by kernel_rfl, rfl⟩
theorem fn117 : IsFn X 117 := ⟨Try.f117, Try.func117, by kernel_rfl, rfl⟩
theorem fn118 : IsFn X 118 := ⟨Try.f118, Try.func118, by kernel_rfl, rfl⟩
theorem fn119 : IsFn X 119 := ⟨Try.f119, Try.func119, by kernel_rfl, rfl⟩
theorem fn120 : IsFn X 120 := ⟨Try.f120, Try.func120, by kernel_rfl, rfl⟩
theorem fn121 : IsFn X 121 := ⟨Try.f121, Try.func121, by kernel_rfl, rfl⟩
theorem fn122 : IsFn X 122 := ⟨Try.f122, Try.func122, by kernel_rfl, rfl⟩
theorem fn123 : IsFn X 123 := ⟨Try.f123, Try.func123, by kernel_rfl, rfl⟩
theorem fn124 : IsFn X 124 := ⟨Try.f124, Try.func124, by kernel_rfl, rfl⟩
theorem fn128 : IsFn X 128 := ⟨Try.f128, Try.func128, by kernel_rfl, rfl⟩
theorem fn149 : IsFn X 149 := ⟨Try.f149, Try.func149, by kernel_rfl, rfl⟩
theorem fn152 : IsFn X 152 := ⟨Try.f152, Try.func152, by kernel_rfl, rfl⟩
theorem fn153 : IsFn X 153 := ⟨Try.f153, Try.func153, by kernel_rfl, rfl⟩
theorem fn154 : IsFn X 154 := ⟨Try.f154, Try.func154, by kernel_rfl, rfl⟩
theorem fn155 : IsFn X 155 := ⟨Try.f155, Try.func155, by kernel_rfl, rfl⟩
theorem fn156 : IsFn X 156 := ⟨Try.f156, Try.func156, by kernel_rfl, rfl⟩
theorem fn157 : IsFn X 157 := ⟨Try.f157, Try.func157, by kernel_rfl, rfl⟩
theorem fn158 : IsFn X 158 := ⟨Try.f158, Try.func158, by kernel_rfl, rfl⟩
theorem fn159 : IsFn X 159 := ⟨Try.f159, Try.func159, by kernel_rfl, rfl⟩
theorem fn160 : IsFn X 160 := ⟨Try.f160, Try.func160, by kernel_rfl, rfl⟩
theorem fn161 : IsFn X 161 := ⟨Try.f161, Try.func161, by kernel_rfl, rfl⟩
theorem fn163 : IsFn X 163 := ⟨Try.f163, Try.func163, by kernel_rfl, rfl⟩
theorem fn164 : IsFn X 164 := ⟨Try.f164, Try.func164, by kernel_rfl, rfl⟩
theorem fn165 : IsFn X 165 := ⟨Try.f165, Try.func165, by kernel_rfl, rfl⟩
theorem fn166 : IsFn X 166 := ⟨Try.f166, Try.func166, by kernel_rfl, rfl⟩
theorem fn167 : IsFn X 167 := ⟨Try.f167, Try.func167, by kernel_rfl, rfl⟩
theorem fn187 : IsFn X 187 := ⟨Try.f187, Try.func187, by kernel_rfl, rfl⟩
theorem fn189 : IsFn X 189 := ⟨Try.f189, Try.func189, by kernel_rfl, rfl⟩
theorem fn190 : IsFn X 190 := ⟨Try.f190, Try.func190, by kernel_rfl, rfl⟩
theorem fn191 : IsFn X 191 := ⟨Try.f191, Try.func191, by kernel_rfl, rfl⟩
theorem fn192 : IsFn X 192 := ⟨Try.f192, Try.func192, by kernel_rfl, rfl⟩
theorem fn193 : IsFn X 193 := ⟨Try.f193, Try.func193, by kernel_rfl, rfl⟩
theorem fn194 : IsFn X 194 := ⟨Try.f194, Try.func194, by kernel_rfl, rfl⟩
theorem fn195 : IsFn X 195 := ⟨Try.f195, Try.func195, by kernel_rfl, rfl⟩
theorem fn196 : IsFn X 196 := ⟨Try.f196, Try.func196, by kernel_rfl, rfl⟩
theorem fn197 : IsFn X 197 := ⟨Try.f197, Try.func197, by kernel_rfl, rfl⟩
theorem fn198 : IsFn X 198 := ⟨Try.f198, Try.func198, by kernel_rfl, rfl⟩
theorem fn199 : IsFn X 199 := ⟨Try.f199, Try.func199, by kernel_rfl, rfl⟩
theorem fn200 : IsFn X 200 := ⟨Try.f200, Try.func200, by kernel_rfl, rfl⟩
theorem fn201 : IsFn X 201 := ⟨Try.f201, Try.func201, by kernel_rfl, rfl⟩
theorem fn202 : IsFn X 202 := ⟨Try.f202, Try.func202, by kernel_rfl, rfl⟩
theorem fn203 : IsFn X 203 := ⟨Try.f203, Try.func203, by kernel_rfl, rfl⟩
theorem fn211 : IsFn X 211 := ⟨Try.f211, Try.func211, by kernel_rfl, rfl⟩
theorem fn212 : IsFn X 212 := ⟨Try.f212, Try.func212, by kernel_rfl, rfl⟩
theorem fn213 : IsFn X 213 := ⟨Try.f213, Try.func213, by kernel_rfl, rfl⟩
theorem fn214 : IsFn X 214 := ⟨Try.f214, Try.func214, by kernel_rfl, rfl⟩
theorem fn215 : IsFn X 215 := ⟨Try.f215, Try.func215, by kernel_rfl, rfl⟩
theorem fn216 : IsFn X 216 := ⟨Try.f216, Try.func216, by kernel_rfl, rfl⟩
theorem fn219 : IsFn X 219 := ⟨Try.f219, Try.func219, by kernel_rfl, rfl⟩
theorem fn220 : IsFn X 220 := ⟨Try.f220, Try.func220, by kernel_rfl, rfl⟩
theorem fn221 : IsFn X 221 := ⟨Try.f221, Try.func221, by kernel_rfl, rfl⟩
theorem fn222 : IsFn X 222 := ⟨Try.f222, Try.func222, by kernel_rfl, rfl⟩
theorem fn223 : IsFn X 223 := ⟨Try.f223, Try.func223, by kernel_rfl, rfl⟩
end Go.Proofs.Ytbcbggdgkdfciaa.S
