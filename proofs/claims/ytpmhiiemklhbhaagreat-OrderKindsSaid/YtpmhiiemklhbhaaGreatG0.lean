import Derived.Test.YtpmhiiemklhbhaaGreatSO
import Derived.Test.YtpmhiiemklhbhaaGreatSL
set_option maxHeartbeats 4000000
set_option linter.unusedVariables false
set_option linter.unusedSimpArgs false
set_option maxRecDepth 20000
namespace Go.Proofs.YtpmhiiemklhbhaaGreat.S
open Go Go.Sm
structure tTr where
  fRoot:Option NP
structure grid_Grid where
  fRows:tTr
  fTail:Bool
  fEnd:Int
structure arena_Span where
  fAt:Int
  fN:Int
  deriving DecidableEq
def e_arena_Span (x:arena_Span):Dat:=.agg [.val (.int .i64 x.fAt),.val (.int .i64 x.fN)]
theorem beq_arena_Span (p q:arena_Span):((p.fAt==q.fAt)&&((p.fN==q.fN)&&true))=(p==q):=by
 rw[Bool.eq_iff_iff]; cases p; cases q; simp[arena_Span.mk.injEq,bs_toList]
structure scan_Field where
  fRaw:arena_Span
  fKind:Int
  fParts:List arena_Span
  deriving DecidableEq
def e_scan_Field (x:scan_Field):Dat:=.agg [.val (.int .i64 x.fRaw.fAt),.val (.int .i64 x.fRaw.fN),.val (.int .i64 x.fKind),.sl 2 (List.map e_arena_Span x.fParts)]
structure scan_Row where
  fFields:List scan_Field
  fEnd:Int
  deriving DecidableEq
def e_scan_Row (x:scan_Row):Dat:=.agg [.sl 4 (List.map e_scan_Field x.fFields),.val (.int .i64 x.fEnd)]
structure piece_Text where
  fL:List arena_Span
  fN:Int
  deriving DecidableEq
structure cell_Cell where
  fText:piece_Text
  fRaw:arena_Span
  fKept:Bool
  deriving DecidableEq
structure row_Row where
  fCells:List cell_Cell
  fEnd:Int
  fHidden:Bool
  deriving DecidableEq
def e_cell_Cell (x:cell_Cell):Dat:=.agg [.sl 2 (List.map e_arena_Span x.fText.fL),.val (.int .i64 x.fText.fN),.val (.int .i64 x.fRaw.fAt),.val (.int .i64 x.fRaw.fN),.val (.bool x.fKept)]
def e_row_Row (x:row_Row):Dat:=.agg [.sl 5 (List.map e_cell_Cell x.fCells),.val (.int .i64 x.fEnd),.val (.bool x.fHidden)]
def e_sl163 (x:List row_Row):Dat:=.sl 3 (List.map e_row_Row x)
structure tNd where
  fKids:List NP
  fItems:List row_Row
  fN:Int
def d_arena_Span:Dat→Option arena_Span
| .agg [p0,p1]=>bnd ((dI .i64) p0) fun y0=>bnd ((dI .i64) p1) fun y1=>some ⟨y0,y1⟩
| _=>none
theorem d_arena_Span_eq {x:Dat} {y:arena_Span} (h:d_arena_Span x=some y):x=e_arena_Span y:=by
 unfold d_arena_Span at h;split at h
 ·obtain⟨y0,h0,h⟩:=bnd_some h; obtain⟨y1,h1,h⟩:=bnd_some h;cases h;obtain rfl:=dI_eq h0; obtain rfl:=dI_eq h1;rfl
 ·cases h
theorem d_arena_Span_e (y:arena_Span):d_arena_Span (e_arena_Span y)=some y:=by simp only[d_arena_Span,e_arena_Span,bnd_r,dI_r]
def d_cell_Cell:Dat→Option cell_Cell
| .agg [p0,p1,p2,p3,p4]=>bnd ((dL 2 d_arena_Span) p0) fun y0=>bnd ((dI .i64) p1) fun y1=>bnd ((dI .i64) p2) fun y2=>bnd ((dI .i64) p3) fun y3=>bnd (dB p4) fun y4=>some ⟨⟨y0,y1⟩,⟨y2,y3⟩,y4⟩
| _=>none
theorem d_cell_Cell_eq {x:Dat} {y:cell_Cell} (h:d_cell_Cell x=some y):x=e_cell_Cell y:=by
 unfold d_cell_Cell at h;split at h
 ·obtain⟨y0,h0,h⟩:=bnd_some h; obtain⟨y1,h1,h⟩:=bnd_some h; obtain⟨y2,h2,h⟩:=bnd_some h; obtain⟨y3,h3,h⟩:=bnd_some h; obtain⟨y4,h4,h⟩:=bnd_some h;cases h;obtain rfl:=(dL_eq d_arena_Span_eq) h0; obtain rfl:=dI_eq h1; obtain rfl:=dI_eq h2; obtain rfl:=dI_eq h3; obtain rfl:=dB_eq h4;rfl
 ·cases h
theorem d_cell_Cell_e (y:cell_Cell):d_cell_Cell (e_cell_Cell y)=some y:=by simp only[d_cell_Cell,e_cell_Cell,bnd_r,dB_r,dI_r,dL_e d_arena_Span_e]
def d_row_Row:Dat→Option row_Row
| .agg [p0,p1,p2]=>bnd ((dL 5 d_cell_Cell) p0) fun y0=>bnd ((dI .i64) p1) fun y1=>bnd (dB p2) fun y2=>some ⟨y0,y1,y2⟩
| _=>none
theorem d_row_Row_eq {x:Dat} {y:row_Row} (h:d_row_Row x=some y):x=e_row_Row y:=by
 unfold d_row_Row at h;split at h
 ·obtain⟨y0,h0,h⟩:=bnd_some h; obtain⟨y1,h1,h⟩:=bnd_some h; obtain⟨y2,h2,h⟩:=bnd_some h;cases h;obtain rfl:=(dL_eq d_cell_Cell_eq) h0; obtain rfl:=dI_eq h1; obtain rfl:=dB_eq h2;rfl
 ·cases h
theorem d_row_Row_e (y:row_Row):d_row_Row (e_row_Row y)=some y:=by simp only[d_row_Row,e_row_Row,bnd_r,dB_r,dI_r,dL_e d_cell_Cell_e]
def c_tNd (y:tNd):NP:=⟨[.sl 1 (List.map eNP y.fKids),.sl 3 (List.map e_row_Row y.fItems),.val (.int .i64 y.fN)]⟩
def o_tNd:NP→Option tNd
| ⟨[p0,p1,p2]⟩=>bnd ((dL 1 dNP) p0) fun y0=>bnd ((dL 3 d_row_Row) p1) fun y1=>bnd ((dI .i64) p2) fun y2=>some ⟨y0,y1,y2⟩
| _=>none
theorem o_tNd_eq {x:NP} {y:tNd} (h:o_tNd x=some y):x=c_tNd y:=by
 unfold o_tNd at h;split at h
 ·obtain⟨y0,h0,h⟩:=bnd_some h; obtain⟨y1,h1,h⟩:=bnd_some h; obtain⟨y2,h2,h⟩:=bnd_some h;cases h;obtain rfl:=(dL_eq dNP_eq) h0; obtain rfl:=(dL_eq d_row_Row_eq) h1; obtain rfl:=dI_eq h2;rfl
 ·cases h
theorem o_tNd_c (y:tNd):o_tNd (c_tNd y)=some y:=by simp only[o_tNd,c_tNd,bnd_r,dI_r,dL_e dNP_e,dL_e d_row_Row_e]
def e_sl221 (x:List NP):Dat:=.sl 1 (List.map eNP x)
structure ref03_Span where
  fAt:Int
  fN:Int
  deriving DecidableEq
structure ref05_Field where
  fRaw:ref03_Span
  fKind:Int
  fBytes:List Int
  deriving DecidableEq
def e_ref05_Field (x:ref05_Field):Dat:=.agg [.val (.int .i64 x.fRaw.fAt),.val (.int .i64 x.fRaw.fN),.val (.int .i64 x.fKind),.sl 1 (List.map (eI .i64) x.fBytes)]
structure ref05_Row where
  fFields:List ref05_Field
  fEnd:Int
  deriving DecidableEq
def e_ref05_Row (x:ref05_Row):Dat:=.agg [.sl 4 (List.map e_ref05_Field x.fFields),.val (.int .i64 x.fEnd)]
structure ref07_Cell where
  fS:List UInt8
  fRaw:List UInt8
  fKept:Bool
  deriving DecidableEq
def e_ref07_Cell (x:ref07_Cell):Dat:=.agg [.val (.string (bs x.fS)),.val (.string (bs x.fRaw)),.val (.bool x.fKept)]
structure ref08_Row where
  fCells:List ref07_Cell
  fEnd:Int
  fHidden:Bool
  deriving DecidableEq
def e_ref08_Row (x:ref08_Row):Dat:=.agg [.sl 3 (List.map e_ref07_Cell x.fCells),.val (.int .i64 x.fEnd),.val (.bool x.fHidden)]
structure ref11_Grid where
  fRows:List ref08_Row
  fTail:Bool
  fEnd:Int
  deriving DecidableEq
structure order_By where
  fCol:Int
  fDown:Bool
  deriving DecidableEq
def e_order_By (x:order_By):Dat:=.agg [.val (.int .i64 x.fCol),.val (.bool x.fDown)]
noncomputable def rfA51_0:Code:=lft (lft (rgt (lft (rgt (rgt (Tryz.f51.body.getD .skip))))))
noncomputable def rfB51_0:Code:=rgt (lft (rgt (lft (rgt (rgt (Tryz.f51.body.getD .skip))))))
structure wFr where
  fN:Option NP
  fFirst:Int
  fNext:Int
def e_wFr (x:wFr):Dat:=.agg [(eOP x.fN),.val (.int .i64 x.fFirst),.val (.int .i64 x.fNext)]
def e_sl76 (x:List Int):Dat:=.sl 1 (List.map (eI .i64) x)
structure merge_run_int where
  fRest:List Int
  fWhich:Int
  deriving DecidableEq
theorem mt352_Push:IsMeth X 352 "Push" 304:={ get:=⟨Tryz.t352,{ name:= "Push",sig:=346,path:=#[],func:=some (304,true) },355,by kernel_rfl,by kernel_rfl,rfl,rfl,Tryz.underlying352⟩ }
def e_merge_run_int (x:merge_run_int):Dat:=.agg [.sl 1 (List.map (eI .i64) x.fRest),.val (.int .i64 x.fWhich)]
theorem mt352_Len:IsMeth X 352 "Len" 268:={ get:=⟨Tryz.t352,{ name:= "Len",sig:=46,path:=#[],func:=some (268,true) },355,by kernel_rfl,by kernel_rfl,rfl,rfl,Tryz.underlying352⟩ }
theorem mt352_Less:IsMeth X 352 "Less" 302:={ get:=⟨Tryz.t352,{ name:= "Less",sig:=363,path:=#[],func:=some (302,true) },355,by kernel_rfl,by kernel_rfl,rfl,rfl,Tryz.underlying352⟩ }
theorem mt352_Swap:IsMeth X 352 "Swap" 305:={ get:=⟨Tryz.t352,{ name:= "Swap",sig:=347,path:=#[],func:=some (305,true) },355,by kernel_rfl,by kernel_rfl,rfl,rfl,Tryz.underlying352⟩ }
theorem mt352_Pop:IsMeth X 352 "Pop" 303:={ get:=⟨Tryz.t352,{ name:= "Pop",sig:=349,path:=#[],func:=some (303,true) },355,by kernel_rfl,by kernel_rfl,rfl,rfl,Tryz.underlying352⟩ }
noncomputable def rfA100_0:Code:=lft (lft (rgt (lft (rgt (rgt (Tryz.f100.body.getD .skip))))))
noncomputable def rfB100_0:Code:=rgt (lft (rgt (lft (rgt (rgt (Tryz.f100.body.getD .skip))))))
noncomputable def rfA69_0:Code:=lft (lft (rgt (lft (rgt (rgt (Tryz.f69.body.getD .skip))))))
noncomputable def rfB69_0:Code:=rgt (lft (rgt (lft (rgt (rgt (Tryz.f69.body.getD .skip))))))
structure merge_run_damier_row_Row where
  fRest:List row_Row
  fWhich:Int
  deriving DecidableEq
theorem mt318_Push:IsMeth X 318 "Push" 300:={ get:=⟨Tryz.t318,{ name:= "Push",sig:=346,path:=#[],func:=some (300,true) },321,by kernel_rfl,by kernel_rfl,rfl,rfl,Tryz.underlying318⟩ }
def e_merge_run_damier_row_Row (x:merge_run_damier_row_Row):Dat:=.agg [.sl 3 (List.map e_row_Row x.fRest),.val (.int .i64 x.fWhich)]
theorem mt318_Len:IsMeth X 318 "Len" 242:={ get:=⟨Tryz.t318,{ name:= "Len",sig:=46,path:=#[],func:=some (242,true) },321,by kernel_rfl,by kernel_rfl,rfl,rfl,Tryz.underlying318⟩ }
theorem mt318_Less:IsMeth X 318 "Less" 298:={ get:=⟨Tryz.t318,{ name:= "Less",sig:=363,path:=#[],func:=some (298,true) },321,by kernel_rfl,by kernel_rfl,rfl,rfl,Tryz.underlying318⟩ }
theorem mt318_Swap:IsMeth X 318 "Swap" 301:={ get:=⟨Tryz.t318,{ name:= "Swap",sig:=347,path:=#[],func:=some (301,true) },321,by kernel_rfl,by kernel_rfl,rfl,rfl,Tryz.underlying318⟩ }
theorem mt318_Pop:IsMeth X 318 "Pop" 299:={ get:=⟨Tryz.t318,{ name:= "Pop",sig:=349,path:=#[],func:=some (299,true) },321,by kernel_rfl,by kernel_rfl,rfl,rfl,Tryz.underlying318⟩ }
theorem drawsX:X.P.follows .mixedOrders=true:=rfl
theorem fn10:IsFn X 10:=⟨Tryz.f10,Tryz.func10,by kernel_rfl,rfl⟩
theorem fn14:IsFn X 14:=⟨Tryz.f14,Tryz.func14,by kernel_rfl,rfl⟩
theorem fn15:IsFn X 15:=⟨Tryz.f15,Tryz.func15,by kernel_rfl,rfl⟩
theorem fn22:IsFn X 22:=⟨Tryz.f22,Tryz.func22,by kernel_rfl,rfl⟩
theorem fn24:IsFn X 24:=⟨Tryz.f24,Tryz.func24,by kernel_rfl,rfl⟩
theorem fn39:IsFn X 39:=⟨Tryz.f39,Tryz.func39,by kernel_rfl,rfl⟩
theorem fn40:IsFn X 40:=⟨Tryz.f40,Tryz.func40,by kernel_rfl,rfl⟩
theorem fn42:IsFn X 42:=⟨Tryz.f42,Tryz.func42,by kernel_rfl,rfl⟩
theorem fn43:IsFn X 43:=⟨Tryz.f43,Tryz.func43,by kernel_rfl,rfl⟩
theorem fn49:IsFn X 49:=⟨Tryz.f49,Tryz.func49,by kernel_rfl,rfl⟩
theorem fn50:IsFn X 50:=⟨Tryz.f50,Tryz.func50,by kernel_rfl,rfl⟩
theorem fn51:IsFn X 51:=⟨Tryz.f51,Tryz.func51,by kernel_rfl,rfl⟩
theorem fn56:IsFn X 56:=⟨Tryz.f56,Tryz.func56,by kernel_rfl,rfl⟩
theorem fn59:IsFn X 59:=⟨Tryz.f59,Tryz.func59,by kernel_rfl,rfl⟩
theorem fn63:IsFn X 63:=⟨Tryz.f63,Tryz.func63,by kernel_rfl,rfl⟩
theorem fn64:IsFn X 64:=⟨Tryz.f64,Tryz.func64,by kernel_rfl,rfl⟩
theorem fn67:IsFn X 67:=⟨Tryz.f67,Tryz.func67,by kernel_rfl,rfl⟩
theorem fn68:IsFn X 68:=⟨Tryz.f68,Tryz.func68,by kernel_rfl,rfl⟩
theorem fn69:IsFn X 69:=⟨Tryz.f69,Tryz.func69,by kernel_rfl,rfl⟩
theorem fn79:IsFn X 79:=⟨Tryz.f79,Tryz.func79,by kernel_rfl,rfl⟩
theorem fn80:IsFn X 80:=⟨Tryz.f80,Tryz.func80,by kernel_rfl,rfl⟩
theorem fn81:IsFn X 81:=⟨Tryz.f81,Tryz.func81,by kernel_rfl,rfl⟩
theorem fn98:IsFn X 98:=⟨Tryz.f98,Tryz.func98,by kernel_rfl,rfl⟩
theorem fn99:IsFn X 99:=⟨Tryz.f99,Tryz.func99,by kernel_rfl,rfl⟩
theorem fn100:IsFn X 100:=⟨Tryz.f100,Tryz.func100,by kernel_rfl,rfl⟩
theorem fn101:IsFn X 101:=⟨Tryz.f101,Tryz.func101,by kernel_rfl,rfl⟩
theorem fn103:IsFn X 103:=⟨Tryz.f103,Tryz.func103,by kernel_rfl,rfl⟩
theorem fn104:IsFn X 104:=⟨Tryz.f104,Tryz.func104,by kernel_rfl,rfl⟩
theorem fn105:IsFn X 105:=⟨Tryz.f105,Tryz.func105,by kernel_rfl,rfl⟩
theorem fn106:IsFn X 106:=⟨Tryz.f106,Tryz.func106,by kernel_rfl,rfl⟩
theorem fn107:IsFn X 107:=⟨Tryz.f107,Tryz.func107,by kernel_rfl,rfl⟩
theorem fn108:IsFn X 108:=⟨Tryz.f108,Tryz.func108,by kernel_rfl,rfl⟩
theorem fn109:IsFn X 109:=⟨Tryz.f109,Tryz.func109,by kernel_rfl,rfl⟩
theorem fn110:IsFn X 110:=⟨Tryz.f110,Tryz.func110,by kernel_rfl,rfl⟩
theorem fn111:IsFn X 111:=⟨Tryz.f111,Tryz.func111,by kernel_rfl,rfl⟩
theorem fn113:IsFn X 113:=⟨Tryz.f113,Tryz.func113,by kernel_rfl,rfl⟩
theorem fn120:IsFn X 120:=⟨Tryz.f120,Tryz.func120,by kernel_rfl,rfl⟩
theorem fn121:IsFn X 121:=⟨Tryz.f121,Tryz.func121,by kernel_rfl,rfl⟩
theorem fn122:IsFn X 122:=⟨Tryz.f122,Tryz.func122,by kernel_rfl,rfl⟩
theorem fn124:IsFn X 124:=⟨Tryz.f124,Tryz.func124,by kernel_rfl,rfl⟩
theorem fn125:IsFn X 125:=⟨Tryz.f125,Tryz.func125,by kernel_rfl,rfl⟩
theorem fn126:IsFn X 126:=⟨Tryz.f126,Tryz.func126,by kernel_rfl,rfl⟩
theorem fn127:IsFn X 127:=⟨Tryz.f127,Tryz.func127,by kernel_rfl,rfl⟩
theorem fn128:IsFn X 128:=⟨Tryz.f128,Tryz.func128,by kernel_rfl,rfl⟩
theorem fn129:IsFn X 129:=⟨Tryz.f129,Tryz.func129,by kernel_rfl,rfl⟩
theorem fn130:IsFn X 130:=⟨Tryz.f130,Tryz.func130,by kernel_rfl,rfl⟩
theorem fn131:IsFn X 131:=⟨Tryz.f131,Tryz.func131,by kernel_rfl,rfl⟩
theorem fn132:IsFn X 132:=⟨Tryz.f132,Tryz.func132,by kernel_rfl,rfl⟩
theorem fn133:IsFn X 133:=⟨Tryz.f133,Tryz.func133,by kernel_rfl,rfl⟩
theorem fn134:IsFn X 134:=⟨Tryz.f134,Tryz.func134,by kernel_rfl,rfl⟩
theorem fn135:IsFn X 135:=⟨Tryz.f135,Tryz.func135,by kernel_rfl,rfl⟩
theorem fn136:IsFn X 136:=⟨Tryz.f136,Tryz.func136,by kernel_rfl,rfl⟩
theorem fn145:IsFn X 145:=⟨Tryz.f145,Tryz.func145,by kernel_rfl,rfl⟩
theorem fn146:IsFn X 146:=⟨Tryz.f146,Tryz.func146,by kernel_rfl,rfl⟩
theorem fn147:IsFn X 147:=⟨Tryz.f147,Tryz.func147,by kernel_rfl,rfl⟩
theorem fn148:IsFn X 148:=⟨Tryz.f148,Tryz.func148,by kernel_rfl,rfl⟩
theorem fn149:IsFn X 149:=⟨Tryz.f149,Tryz.func149,by kernel_rfl,rfl⟩
theorem fn150:IsFn X 150:=⟨Tryz.f150,Tryz.func150,by kernel_rfl,rfl⟩
theorem fn151:IsFn X 151:=⟨Tryz.f151,Tryz.func151,by kernel_rfl,rfl⟩
theorem fn152:IsFn X 152:=⟨Tryz.f152,Tryz.func152,by kernel_rfl,rfl⟩
theorem fn153:IsFn X 153:=⟨Tryz.f153,Tryz.func153,by kernel_rfl,rfl⟩
theorem fn158:IsFn X 158:=⟨Tryz.f158,Tryz.func158,by kernel_rfl,rfl⟩
theorem fn163:IsFn X 163:=⟨Tryz.f163,Tryz.func163,by kernel_rfl,rfl⟩
theorem fn165:IsFn X 165:=⟨Tryz.f165,Tryz.func165,by kernel_rfl,rfl⟩
theorem fn168:IsFn X 168:=⟨Tryz.f168,Tryz.func168,by kernel_rfl,rfl⟩
theorem fn169:IsFn X 169:=⟨Tryz.f169,Tryz.func169,by kernel_rfl,rfl⟩
theorem fn170:IsFn X 170:=⟨Tryz.f170,Tryz.func170,by kernel_rfl,rfl⟩
theorem fn171:IsFn X 171:=⟨Tryz.f171,Tryz.func171,by kernel_rfl,rfl⟩
theorem fn172:IsFn X 172:=⟨Tryz.f172,Tryz.func172,by kernel_rfl,rfl⟩
theorem fn173:IsFn X 173:=⟨Tryz.f173,Tryz.func173,by kernel_rfl,rfl⟩
theorem fn174:IsFn X 174:=⟨Tryz.f174,Tryz.func174,by kernel_rfl,rfl⟩
theorem fn183:IsFn X 183:=⟨Tryz.f183,Tryz.func183,by kernel_rfl,rfl⟩
theorem fn186:IsFn X 186:=⟨Tryz.f186,Tryz.func186,by kernel_rfl,rfl⟩
theorem fn187:IsFn X 187:=⟨Tryz.f187,Tryz.func187,by kernel_rfl,rfl⟩
theorem fn188:IsFn X 188:=⟨Tryz.f188,Tryz.func188,by kernel_rfl,rfl⟩
theorem fn189:IsFn X 189:=⟨Tryz.f189,Tryz.func189,by kernel_rfl,rfl⟩
theorem fn190:IsFn X 190:=⟨Tryz.f190,Tryz.func190,by kernel_rfl,rfl⟩
theorem fn191:IsFn X 191:=⟨Tryz.f191,Tryz.func191,by kernel_rfl,rfl⟩
theorem fn192:IsFn X 192:=⟨Tryz.f192,Tryz.func192,by kernel_rfl,rfl⟩
theorem fn193:IsFn X 193:=⟨Tryz.f193,Tryz.func193,by kernel_rfl,rfl⟩
theorem fn194:IsFn X 194:=⟨Tryz.f194,Tryz.func194,by kernel_rfl,rfl⟩
theorem fn195:IsFn X 195:=⟨Tryz.f195,Tryz.func195,by kernel_rfl,rfl⟩
theorem fn196:IsFn X 196:=⟨Tryz.f196,Tryz.func196,by kernel_rfl,rfl⟩
theorem fn197:IsFn X 197:=⟨Tryz.f197,Tryz.func197,by kernel_rfl,rfl⟩
theorem fn198:IsFn X 198:=⟨Tryz.f198,Tryz.func198,by kernel_rfl,rfl⟩
theorem fn199:IsFn X 199:=⟨Tryz.f199,Tryz.func199,by kernel_rfl,rfl⟩
theorem fn201:IsFn X 201:=⟨Tryz.f201,Tryz.func201,by kernel_rfl,rfl⟩
theorem fn209:IsFn X 209:=⟨Tryz.f209,Tryz.func209,by kernel_rfl,rfl⟩
theorem fn210:IsFn X 210:=⟨Tryz.f210,Tryz.func210,by kernel_rfl,rfl⟩
theorem fn211:IsFn X 211:=⟨Tryz.f211,Tryz.func211,by kernel_rfl,rfl⟩
theorem fn212:IsFn X 212:=⟨Tryz.f212,Tryz.func212,by kernel_rfl,rfl⟩
theorem fn213:IsFn X 213:=⟨Tryz.f213,Tryz.func213,by kernel_rfl,rfl⟩
theorem fn214:IsFn X 214:=⟨Tryz.f214,Tryz.func214,by kernel_rfl,rfl⟩
theorem fn215:IsFn X 215:=⟨Tryz.f215,Tryz.func215,by kernel_rfl,rfl⟩
theorem fn216:IsFn X 216:=⟨Tryz.f216,Tryz.func216,by kernel_rfl,rfl⟩
theorem fn217:IsFn X 217:=⟨Tryz.f217,Tryz.func217,by kernel_rfl,rfl⟩
theorem fn218:IsFn X 218:=⟨Tryz.f218,Tryz.func218,by kernel_rfl,rfl⟩
theorem fn219:IsFn X 219:=⟨Tryz.f219,Tryz.func219,by kernel_rfl,rfl⟩
theorem fn222:IsFn X 222:=⟨Tryz.f222,Tryz.func222,by kernel_rfl,rfl⟩
theorem fn223:IsFn X 223:=⟨Tryz.f223,Tryz.func223,by kernel_rfl,rfl⟩
theorem fn224:IsFn X 224:=⟨Tryz.f224,Tryz.func224,by kernel_rfl,rfl⟩
theorem fn225:IsFn X 225:=⟨Tryz.f225,Tryz.func225,by kernel_rfl,rfl⟩
theorem fn226:IsFn X 226:=⟨Tryz.f226,Tryz.func226,by kernel_rfl,rfl⟩
theorem fn227:IsFn X 227:=⟨Tryz.f227,Tryz.func227,by kernel_rfl,rfl⟩
theorem fn228:IsFn X 228:=⟨Tryz.f228,Tryz.func228,by kernel_rfl,rfl⟩
theorem fn229:IsFn X 229:=⟨Tryz.f229,Tryz.func229,by kernel_rfl,rfl⟩
theorem fn230:IsFn X 230:=⟨Tryz.f230,Tryz.func230,by kernel_rfl,rfl⟩
theorem fn231:IsFn X 231:=⟨Tryz.f231,Tryz.func231,by kernel_rfl,rfl⟩
theorem fn235:IsFn X 235:=⟨Tryz.f235,Tryz.func235,by kernel_rfl,rfl⟩
theorem fn236:IsFn X 236:=⟨Tryz.f236,Tryz.func236,by kernel_rfl,rfl⟩
theorem fn237:IsFn X 237:=⟨Tryz.f237,Tryz.func237,by kernel_rfl,rfl⟩
theorem fn238:IsFn X 238:=⟨Tryz.f238,Tryz.func238,by kernel_rfl,rfl⟩
theorem fn239:IsFn X 239:=⟨Tryz.f239,Tryz.func239,by kernel_rfl,rfl⟩
theorem fn240:IsFn X 240:=⟨Tryz.f240,Tryz.func240,by kernel_rfl,rfl⟩
theorem fn241:IsFn X 241:=⟨Tryz.f241,Tryz.func241,by kernel_rfl,rfl⟩
theorem fn242:IsFn X 242:=⟨Tryz.f242,Tryz.func242,by kernel_rfl,rfl⟩
theorem fn243:IsFn X 243:=⟨Tryz.f243,Tryz.func243,by kernel_rfl,rfl⟩
theorem fn244:IsFn X 244:=⟨Tryz.f244,Tryz.func244,by kernel_rfl,rfl⟩
theorem fn247:IsFn X 247:=⟨Tryz.f247,Tryz.func247,by kernel_rfl,rfl⟩
theorem fn248:IsFn X 248:=⟨Tryz.f248,Tryz.func248,by kernel_rfl,rfl⟩
theorem fn249:IsFn X 249:=⟨Tryz.f249,Tryz.func249,by kernel_rfl,rfl⟩
theorem fn250:IsFn X 250:=⟨Tryz.f250,Tryz.func250,by kernel_rfl,rfl⟩
theorem fn251:IsFn X 251:=⟨Tryz.f251,Tryz.func251,by kernel_rfl,rfl⟩
theorem fn252:IsFn X 252:=⟨Tryz.f252,Tryz.func252,by kernel_rfl,rfl⟩
theorem fn253:IsFn X 253:=⟨Tryz.f253,Tryz.func253,by kernel_rfl,rfl⟩
theorem fn254:IsFn X 254:=⟨Tryz.f254,Tryz.func254,by kernel_rfl,rfl⟩
theorem fn255:IsFn X 255:=⟨Tryz.f255,Tryz.func255,by kernel_rfl,rfl⟩
theorem fn256:IsFn X 256:=⟨Tryz.f256,Tryz.func256,by kernel_rfl,rfl⟩
theorem fn257:IsFn X 257:=⟨Tryz.f257,Tryz.func257,by kernel_rfl,rfl⟩
theorem fn258:IsFn X 258:=⟨Tryz.f258,Tryz.func258,by kernel_rfl,rfl⟩
theorem fn259:IsFn X 259:=⟨Tryz.f259,Tryz.func259,by kernel_rfl,rfl⟩
theorem fn260:IsFn X 260:=⟨Tryz.f260,Tryz.func260,by kernel_rfl,rfl⟩
theorem fn261:IsFn X 261:=⟨Tryz.f261,Tryz.func261,by kernel_rfl,rfl⟩
theorem fn262:IsFn X 262:=⟨Tryz.f262,Tryz.func262,by kernel_rfl,rfl⟩
theorem fn263:IsFn X 263:=⟨Tryz.f263,Tryz.func263,by kernel_rfl,rfl⟩
theorem fn264:IsFn X 264:=⟨Tryz.f264,Tryz.func264,by kernel_rfl,rfl⟩
theorem fn265:IsFn X 265:=⟨Tryz.f265,Tryz.func265,by kernel_rfl,rfl⟩
theorem fn266:IsFn X 266:=⟨Tryz.f266,Tryz.func266,by kernel_rfl,rfl⟩
theorem fn267:IsFn X 267:=⟨Tryz.f267,Tryz.func267,by kernel_rfl,rfl⟩
theorem fn268:IsFn X 268:=⟨Tryz.f268,Tryz.func268,by kernel_rfl,rfl⟩
theorem fn269:IsFn X 269:=⟨Tryz.f269,Tryz.func269,by kernel_rfl,rfl⟩
theorem fn270:IsFn X 270:=⟨Tryz.f270,Tryz.func270,by kernel_rfl,rfl⟩
theorem fn271:IsFn X 271:=⟨Tryz.f271,Tryz.func271,by kernel_rfl,rfl⟩
theorem fn272:IsFn X 272:=⟨Tryz.f272,Tryz.func272,by kernel_rfl,rfl⟩
theorem fn273:IsFn X 273:=⟨Tryz.f273,Tryz.func273,by kernel_rfl,rfl⟩
theorem fn274:IsFn X 274:=⟨Tryz.f274,Tryz.func274,by kernel_rfl,rfl⟩
theorem fn275:IsFn X 275:=⟨Tryz.f275,Tryz.func275,by kernel_rfl,rfl⟩
theorem fn276:IsFn X 276:=⟨Tryz.f276,Tryz.func276,by kernel_rfl,rfl⟩
theorem fn298:IsFn X 298:=⟨Tryz.f298,Tryz.func298,by kernel_rfl,rfl⟩
theorem fn299:IsFn X 299:=⟨Tryz.f299,Tryz.func299,by kernel_rfl,rfl⟩
theorem fn300:IsFn X 300:=⟨Tryz.f300,Tryz.func300,by kernel_rfl,rfl⟩
theorem fn301:IsFn X 301:=⟨Tryz.f301,Tryz.func301,by kernel_rfl,rfl⟩
theorem fn302:IsFn X 302:=⟨Tryz.f302,Tryz.func302,by kernel_rfl,rfl⟩
theorem fn303:IsFn X 303:=⟨Tryz.f303,Tryz.func303,by kernel_rfl,rfl⟩
theorem fn304:IsFn X 304:=⟨Tryz.f304,Tryz.func304,by kernel_rfl,rfl⟩
theorem fn305:IsFn X 305:=⟨Tryz.f305,Tryz.func305,by kernel_rfl,rfl⟩
end Go.Proofs.YtpmhiiemklhbhaaGreat.S
