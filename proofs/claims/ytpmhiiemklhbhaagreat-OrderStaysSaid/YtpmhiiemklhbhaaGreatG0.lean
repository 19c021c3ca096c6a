import Derived.Test.YtpmhiiemklhbhaaGreatSO
import Derived.Test.YtpmhiiemklhbhaaGreatSL
set_option maxHeartbeats 4000000
set_option linter.unusedVariables false
set_option linter.unusedSimpArgs false
set_option maxRecDepth 20000
namespace Go.Proofs.YtpmhiiemklhbhaaGreat.S
open Go Go.Sm
structure ref16_By where
  fCol:Int
  fDown:Bool
  deriving DecidableEq
structure tTr where
  fRoot:Option NP
structure grid_Grid where
  fRows:tTr
  fTail:Bool
  fEnd:Int
structure arena_Span where
  fAt:Int
  fN:Int
  deriving DecidableEq
def zm (x:arena_Span):Dat:=.agg [.val (.int .i64 x.fAt),.val (.int .i64 x.fN)]
theorem beq_arena_Span (p q:arena_Span):((p.fAt==q.fAt)&&((p.fN==q.fN)&&true))=(p==q):=by
 rw[Bool.eq_iff_iff]; cases p; cases q; simp[arena_Span.mk.injEq,r5]
structure scan_Field where
  fRaw:arena_Span
  fKind:Int
  fParts:List arena_Span
  deriving DecidableEq
def xE (x:scan_Field):Dat:=.agg [.val (.int .i64 x.fRaw.fAt),.val (.int .i64 x.fRaw.fN),.val (.int .i64 x.fKind),.sl 2 (List.map zm x.fParts)]
structure scan_Row where
  fFields:List scan_Field
  fEnd:Int
  deriving DecidableEq
def xX (x:scan_Row):Dat:=.agg [.sl 4 (List.map xE x.fFields),.val (.int .i64 x.fEnd)]
structure piece_Text where
  fL:List arena_Span
  fN:Int
  deriving DecidableEq
structure cell_Cell where
  fText:piece_Text
  fRaw:arena_Span
  fKept:Bool
  deriving DecidableEq
structure row_Row where
  fCells:List cell_Cell
  fEnd:Int
  fHidden:Bool
  deriving DecidableEq
def zj (x:cell_Cell):Dat:=.agg [.sl 2 (List.map zm x.fText.fL),.val (.int .i64 x.fText.fN),.val (.int .i64 x.fRaw.fAt),.val (.int .i64 x.fRaw.fN),.val (.bool x.fKept)]
def z8 (x:row_Row):Dat:=.agg [.sl 5 (List.map zj x.fCells),.val (.int .i64 x.fEnd),.val (.bool x.fHidden)]
def xQ (x:List row_Row):Dat:=.sl 3 (List.map z8 x)
structure tNd where
  fKids:List NP
  fItems:List row_Row
  fN:Int
def tI:Dat→Option arena_Span
| .agg [p0,p1]=>bnd ((dI .i64) p0) fun y0=>bnd ((dI .i64) p1) fun y1=>some ⟨y0,y1⟩
| _=>none
theorem d_arena_Span_eq {x:Dat} {y:arena_Span} (h:tI x=some y):x=zm y:=by
 unfold tI at h;split at h
 ·obtain⟨y0,h0,h⟩:=vv h; obtain⟨y1,h1,h⟩:=vv h;cases h;obtain rfl:=dI_eq h0; obtain rfl:=dI_eq h1;rfl
 ·cases h
theorem d_arena_Span_e (y:arena_Span):tI (zm y)=some y:=by simp only[tI,zm,bnd_r,dI_r]
def sv:Dat→Option cell_Cell
| .agg [p0,p1,p2,p3,p4]=>bnd ((dL 2 tI) p0) fun y0=>bnd ((dI .i64) p1) fun y1=>bnd ((dI .i64) p2) fun y2=>bnd ((dI .i64) p3) fun y3=>bnd (dB p4) fun y4=>some ⟨⟨y0,y1⟩,⟨y2,y3⟩,y4⟩
| _=>none
theorem d_cell_Cell_eq {x:Dat} {y:cell_Cell} (h:sv x=some y):x=zj y:=by
 unfold sv at h;split at h
 ·obtain⟨y0,h0,h⟩:=vv h; obtain⟨y1,h1,h⟩:=vv h; obtain⟨y2,h2,h⟩:=vv h; obtain⟨y3,h3,h⟩:=vv h; obtain⟨y4,h4,h⟩:=vv h;cases h;obtain rfl:=(dL_eq d_arena_Span_eq) h0; obtain rfl:=dI_eq h1; obtain rfl:=dI_eq h2; obtain rfl:=dI_eq h3; obtain rfl:=dB_eq h4;rfl
 ·cases h
theorem d_cell_Cell_e (y:cell_Cell):sv (zj y)=some y:=by simp only[sv,zj,bnd_r,dB_r,dI_r,dL_e d_arena_Span_e]
def qk:Dat→Option row_Row
| .agg [p0,p1,p2]=>bnd ((dL 5 sv) p0) fun y0=>bnd ((dI .i64) p1) fun y1=>bnd (dB p2) fun y2=>some ⟨y0,y1,y2⟩
| _=>none
theorem d_row_Row_eq {x:Dat} {y:row_Row} (h:qk x=some y):x=z8 y:=by
 unfold qk at h;split at h
 ·obtain⟨y0,h0,h⟩:=vv h; obtain⟨y1,h1,h⟩:=vv h; obtain⟨y2,h2,h⟩:=vv h;cases h;obtain rfl:=(dL_eq d_cell_Cell_eq) h0; obtain rfl:=dI_eq h1; obtain rfl:=dB_eq h2;rfl
 ·cases h
theorem d_row_Row_e (y:row_Row):qk (z8 y)=some y:=by simp only[qk,z8,bnd_r,dB_r,dI_r,dL_e d_cell_Cell_e]
def yM (y:tNd):NP:=⟨[.sl 1 (List.map eNP y.fKids),.sl 3 (List.map z8 y.fItems),.val (.int .i64 y.fN)]⟩
def vi:NP→Option tNd
| ⟨[p0,p1,p2]⟩=>bnd ((dL 1 dNP) p0) fun y0=>bnd ((dL 3 qk) p1) fun y1=>bnd ((dI .i64) p2) fun y2=>some ⟨y0,y1,y2⟩
| _=>none
theorem xf {x:NP} {y:tNd} (h:vi x=some y):x=yM y:=by
 unfold vi at h;split at h
 ·obtain⟨y0,h0,h⟩:=vv h; obtain⟨y1,h1,h⟩:=vv h; obtain⟨y2,h2,h⟩:=vv h;cases h;obtain rfl:=(dL_eq dNP_eq) h0; obtain rfl:=(dL_eq d_row_Row_eq) h1; obtain rfl:=dI_eq h2;rfl
 ·cases h
theorem o_tNd_c (y:tNd):vi (yM y)=some y:=by simp only[vi,yM,bnd_r,dI_r,dL_e dNP_e,dL_e d_row_Row_e]
def uC (x:List NP):Dat:=.sl 1 (List.map eNP x)
structure ref03_Span where
  fAt:Int
  fN:Int
  deriving DecidableEq
structure ref05_Field where
  fRaw:ref03_Span
  fKind:Int
  fBytes:List Int
  deriving DecidableEq
def xS (x:ref05_Field):Dat:=.agg [.val (.int .i64 x.fRaw.fAt),.val (.int .i64 x.fRaw.fN),.val (.int .i64 x.fKind),.sl 1 (List.map (eI .i64) x.fBytes)]
structure ref05_Row where
  fFields:List ref05_Field
  fEnd:Int
  deriving DecidableEq
def wF (x:ref05_Row):Dat:=.agg [.sl 4 (List.map xS x.fFields),.val (.int .i64 x.fEnd)]
structure ref07_Cell where
  fS:List UInt8
  fRaw:List UInt8
  fKept:Bool
  deriving DecidableEq
def zB (x:ref07_Cell):Dat:=.agg [.val (.string (bs x.fS)),.val (.string (bs x.fRaw)),.val (.bool x.fKept)]
structure ref08_Row where
  fCells:List ref07_Cell
  fEnd:Int
  fHidden:Bool
  deriving DecidableEq
def zl (x:ref08_Row):Dat:=.agg [.sl 3 (List.map zB x.fCells),.val (.int .i64 x.fEnd),.val (.bool x.fHidden)]
structure ref11_Grid where
  fRows:List ref08_Row
  fTail:Bool
  fEnd:Int
  deriving DecidableEq
def yv (x:ref16_By):Dat:=.agg [.val (.int .i64 x.fCol),.val (.bool x.fDown)]
structure order_By where
  fCol:Int
  fDown:Bool
  deriving DecidableEq
def zg (x:order_By):Dat:=.agg [.val (.int .i64 x.fCol),.val (.bool x.fDown)]
noncomputable def tN:Code:=lft (lft (rgt (lft (rgt (rgt (Tryz.f51.body.getD .skip))))))
noncomputable def tM:Code:=rgt (lft (rgt (lft (rgt (rgt (Tryz.f51.body.getD .skip))))))
structure wFr where
  fN:Option NP
  fFirst:Int
  fNext:Int
def yF (x:wFr):Dat:=.agg [(eOP x.fN),.val (.int .i64 x.fFirst),.val (.int .i64 x.fNext)]
def sL (x:List Int):Dat:=.sl 1 (List.map (eI .i64) x)
structure merge_run_int where
  fRest:List Int
  fWhich:Int
  deriving DecidableEq
theorem mt352_Push:IsMeth X 352 "Push" 304:={ get:=⟨Tryz.t352,{ name:= "Push",sig:=346,path:=#[],func:=some (304,true) },355,by kernel_rfl,by kernel_rfl,rfl,rfl,Tryz.underlying352⟩ }
def zn (x:merge_run_int):Dat:=.agg [.sl 1 (List.map (eI .i64) x.fRest),.val (.int .i64 x.fWhich)]
theorem mt352_Len:IsMeth X 352 "Len" 268:={ get:=⟨Tryz.t352,{ name:= "Len",sig:=46,path:=#[],func:=some (268,true) },355,by kernel_rfl,by kernel_rfl,rfl,rfl,Tryz.underlying352⟩ }
theorem mt352_Less:IsMeth X 352 "Less" 302:={ get:=⟨Tryz.t352,{ name:= "Less",sig:=363,path:=#[],func:=some (302,true) },355,by kernel_rfl,by kernel_rfl,rfl,rfl,Tryz.underlying352⟩ }
theorem mt352_Swap:IsMeth X 352 "Swap" 305:={ get:=⟨Tryz.t352,{ name:= "Swap",sig:=347,path:=#[],func:=some (305,true) },355,by kernel_rfl,by kernel_rfl,rfl,rfl,Tryz.underlying352⟩ }
theorem mt352_Pop:IsMeth X 352 "Pop" 303:={ get:=⟨Tryz.t352,{ name:= "Pop",sig:=349,path:=#[],func:=some (303,true) },355,by kernel_rfl,by kernel_rfl,rfl,rfl,Tryz.underlying352⟩ }
noncomputable def tx:Code:=lft (lft (rgt (lft (rgt (rgt (Tryz.f100.body.getD .skip))))))
noncomputable def tw:Code:=rgt (lft (rgt (lft (rgt (rgt (Tryz.f100.body.getD .skip))))))
noncomputable def uR:Code:=lft (lft (rgt (lft (rgt (rgt (Tryz.f69.body.getD .skip))))))
noncomputable def uQ:Code:=rgt (lft (rgt (lft (rgt (rgt (Tryz.f69.body.getD .skip))))))
structure merge_run_damier_row_Row where
  fRest:List row_Row
  fWhich:Int
  deriving DecidableEq
theorem mt318_Push:IsMeth X 318 "Push" 300:={ get:=⟨Tryz.t318,{ name:= "Push",sig:=346,path:=#[],func:=some (300,true) },321,by kernel_rfl,by kernel_rfl,rfl,rfl,Tryz.underlying318⟩ }
def za (x:merge_run_damier_row_Row):Dat:=.agg [.sl 3 (List.map z8 x.fRest),.val (.int .i64 x.fWhich)]
theorem mt318_Len:IsMeth X 318 "Len" 242:={ get:=⟨Tryz.t318,{ name:= "Len",sig:=46,path:=#[],func:=some (242,true) },321,by kernel_rfl,by kernel_rfl,rfl,rfl,Tryz.underlying318⟩ }
theorem mt318_Less:IsMeth X 318 "Less" 298:={ get:=⟨Tryz.t318,{ name:= "Less",sig:=363,path:=#[],func:=some (298,true) },321,by kernel_rfl,by kernel_rfl,rfl,rfl,Tryz.underlying318⟩ }
theorem mt318_Swap:IsMeth X 318 "Swap" 301:={ get:=⟨Tryz.t318,{ name:= "Swap",sig:=347,path:=#[],func:=some (301,true) },321,by kernel_rfl,by kernel_rfl,rfl,rfl,Tryz.underlying318⟩ }
theorem mt318_Pop:IsMeth X 318 "Pop" 299:={ get:=⟨Tryz.t318,{ name:= "Pop",sig:=349,path:=#[],func:=some (299,true) },321,by kernel_rfl,by kernel_rfl,rfl,rfl,Tryz.underlying318⟩ }
noncomputable def ve:Code:=lft (lft (rgt (lft (rgt (rgt (Tryz.f28.body.getD .skip))))))
noncomputable def vd:Code:=rgt (lft (rgt (lft (rgt (rgt (Tryz.f28.body.getD .skip))))))
theorem beq_ref07_Cell (p q:ref07_Cell):(((bs p.fS).toList==(bs q.fS).toList)&&(((bs p.fRaw).toList==(bs q.fRaw).toList)&&((p.fKept==q.fKept)&&true)))=(p==q):=by
 rw[Bool.eq_iff_iff]; cases p; cases q; simp[ref07_Cell.mk.injEq,r5]
theorem zV:X.P.follows .mixedOrders=true:=rfl
theorem fn13:yT X 13:=⟨Tryz.f13,Tryz.func13,by kernel_rfl,rfl⟩
theorem fn14:yT X 14:=⟨Tryz.f14,Tryz.func14,by kernel_rfl,rfl⟩
theorem fn15:yT X 15:=⟨Tryz.f15,Tryz.func15,by kernel_rfl,rfl⟩
theorem fn19:yT X 19:=⟨Tryz.f19,Tryz.func19,by kernel_rfl,rfl⟩
theorem fn22:yT X 22:=⟨Tryz.f22,Tryz.func22,by kernel_rfl,rfl⟩
theorem fn24:yT X 24:=⟨Tryz.f24,Tryz.func24,by kernel_rfl,rfl⟩
theorem fn28:yT X 28:=⟨Tryz.f28,Tryz.func28,by kernel_rfl,rfl⟩
theorem fn30:yT X 30:=⟨Tryz.f30,Tryz.func30,by kernel_rfl,rfl⟩
theorem fn39:yT X 39:=⟨Tryz.f39,Tryz.func39,by kernel_rfl,rfl⟩
theorem fn40:yT X 40:=⟨Tryz.f40,Tryz.func40,by kernel_rfl,rfl⟩
theorem fn42:yT X 42:=⟨Tryz.f42,Tryz.func42,by kernel_rfl,rfl⟩
theorem fn49:yT X 49:=⟨Tryz.f49,Tryz.func49,by kernel_rfl,rfl⟩
theorem fn50:yT X 50:=⟨Tryz.f50,Tryz.func50,by kernel_rfl,rfl⟩
theorem fn51:yT X 51:=⟨Tryz.f51,Tryz.func51,by kernel_rfl,rfl⟩
theorem fn54:yT X 54:=⟨Tryz.f54,Tryz.func54,by kernel_rfl,rfl⟩
theorem fn56:yT X 56:=⟨Tryz.f56,Tryz.func56,by kernel_rfl,rfl⟩
theorem fn57:yT X 57:=⟨Tryz.f57,Tryz.func57,by kernel_rfl,rfl⟩
theorem fn59:yT X 59:=⟨Tryz.f59,Tryz.func59,by kernel_rfl,rfl⟩
theorem fn61:yT X 61:=⟨Tryz.f61,Tryz.func61,by kernel_rfl,rfl⟩
theorem fn63:yT X 63:=⟨Tryz.f63,Tryz.func63,by kernel_rfl,rfl⟩
theorem fn64:yT X 64:=⟨Tryz.f64,Tryz.func64,by kernel_rfl,rfl⟩
theorem fn65:yT X 65:=⟨Tryz.f65,Tryz.func65,by kernel_rfl,rfl⟩
theorem fn66:yT X 66:=⟨Tryz.f66,Tryz.func66,by kernel_rfl,rfl⟩
theorem fn67:yT X 67:=⟨Tryz.f67,Tryz.func67,by kernel_rfl,rfl⟩
theorem fn68:yT X 68:=⟨Tryz.f68,Tryz.func68,by kernel_rfl,rfl⟩
theorem fn69:yT X 69:=⟨Tryz.f69,Tryz.func69,by kernel_rfl,rfl⟩
theorem fn75:yT X 75:=⟨Tryz.f75,Tryz.func75,by kernel_rfl,rfl⟩
theorem fn79:yT X 79:=⟨Tryz.f79,Tryz.func79,by kernel_rfl,rfl⟩
theorem fn80:yT X 80:=⟨Tryz.f80,Tryz.func80,by kernel_rfl,rfl⟩
theorem fn81:yT X 81:=⟨Tryz.f81,Tryz.func81,by kernel_rfl,rfl⟩
theorem fn88:yT X 88:=⟨Tryz.f88,Tryz.func88,by kernel_rfl,rfl⟩
theorem fn98:yT X 98:=⟨Tryz.f98,Tryz.func98,by kernel_rfl,rfl⟩
theorem fn99:yT X 99:=⟨Tryz.f99,Tryz.func99,by kernel_rfl,rfl⟩
theorem fn100:yT X 100:=⟨Tryz.f100,Tryz.func100,by kernel_rfl,rfl⟩
theorem fn101:yT X 101:=⟨Tryz.f101,Tryz.func101,by kernel_rfl,rfl⟩
theorem fn103:yT X 103:=⟨Tryz.f103,Tryz.func103,by kernel_rfl,rfl⟩
theorem fn104:yT X 104:=⟨Tryz.f104,Tryz.func104,by kernel_rfl,rfl⟩
theorem fn105:yT X 105:=⟨Tryz.f105,Tryz.func105,by kernel_rfl,rfl⟩
theorem fn106:yT X 106:=⟨Tryz.f106,Tryz.func106,by kernel_rfl,rfl⟩
theorem fn107:yT X 107:=⟨Tryz.f107,Tryz.func107,by kernel_rfl,rfl⟩
theorem fn108:yT X 108:=⟨Tryz.f108,Tryz.func108,by kernel_rfl,rfl⟩
theorem fn109:yT X 109:=⟨Tryz.f109,Tryz.func109,by kernel_rfl,rfl⟩
theorem fn110:yT X 110:=⟨Tryz.f110,Tryz.func110,by kernel_rfl,rfl⟩
theorem fn111:yT X 111:=⟨Tryz.f111,Tryz.func111,by kernel_rfl,rfl⟩
theorem fn113:yT X 113:=⟨Tryz.f113,Tryz.func113,by kernel_rfl,rfl⟩
theorem fn120:yT X 120:=⟨Tryz.f120,Tryz.func120,by kernel_rfl,rfl⟩
theorem fn121:yT X 121:=⟨Tryz.f121,Tryz.func121,by kernel_rfl,rfl⟩
theorem fn122:yT X 122:=⟨Tryz.f122,Tryz.func122,by kernel_rfl,rfl⟩
theorem fn124:yT X 124:=⟨Tryz.f124,Tryz.func124,by kernel_rfl,rfl⟩
theorem fn125:yT X 125:=⟨Tryz.f125,Tryz.func125,by kernel_rfl,rfl⟩
theorem fn126:yT X 126:=⟨Tryz.f126,Tryz.func126,by kernel_rfl,rfl⟩
theorem fn127:yT X 127:=⟨Tryz.f127,Tryz.func127,by kernel_rfl,rfl⟩
theorem fn128:yT X 128:=⟨Tryz.f128,Tryz.func128,by kernel_rfl,rfl⟩
theorem fn129:yT X 129:=⟨Tryz.f129,Tryz.func129,by kernel_rfl,rfl⟩
theorem fn130:yT X 130:=⟨Tryz.f130,Tryz.func130,by kernel_rfl,rfl⟩
theorem fn131:yT X 131:=⟨Tryz.f131,Tryz.func131,by kernel_rfl,rfl⟩
theorem fn132:yT X 132:=⟨Tryz.f132,Tryz.func132,by kernel_rfl,rfl⟩
theorem fn133:yT X 133:=⟨Tryz.f133,Tryz.func133,by kernel_rfl,rfl⟩
theorem fn134:yT X 134:=⟨Tryz.f134,Tryz.func134,by kernel_rfl,rfl⟩
theorem fn135:yT X 135:=⟨Tryz.f135,Tryz.func135,by kernel_rfl,rfl⟩
theorem fn136:yT X 136:=⟨Tryz.f136,Tryz.func136,by kernel_rfl,rfl⟩
theorem fn144:yT X 144:=⟨Tryz.f144,Tryz.func144,by kernel_rfl,rfl⟩
theorem fn145:yT X 145:=⟨Tryz.f145,Tryz.func145,by kernel_rfl,rfl⟩
theorem fn146:yT X 146:=⟨Tryz.f146,Tryz.func146,by kernel_rfl,rfl⟩
theorem fn147:yT X 147:=⟨Tryz.f147,Tryz.func147,by kernel_rfl,rfl⟩
theorem fn148:yT X 148:=⟨Tryz.f148,Tryz.func148,by kernel_rfl,rfl⟩
theorem fn149:yT X 149:=⟨Tryz.f149,Tryz.func149,by kernel_rfl,rfl⟩
theorem fn150:yT X 150:=⟨Tryz.f150,Tryz.func150,by kernel_rfl,rfl⟩
theorem fn151:yT X 151:=⟨Tryz.f151,Tryz.func151,by kernel_rfl,rfl⟩
theorem fn152:yT X 152:=⟨Tryz.f152,Tryz.func152,by kernel_rfl,rfl⟩
theorem fn153:yT X 153:=⟨Tryz.f153,Tryz.func153,by kernel_rfl,rfl⟩
theorem fn158:yT X 158:=⟨Tryz.f158,Tryz.func158,by kernel_rfl,rfl⟩
theorem fn160:yT X 160:=⟨Tryz.f160,Tryz.func160,by kernel_rfl,rfl⟩
theorem fn161:yT X 161:=⟨Tryz.f161,Tryz.func161,by kernel_rfl,rfl⟩
theorem fn162:yT X 162:=⟨Tryz.f162,Tryz.func162,by kernel_rfl,rfl⟩
theorem fn163:yT X 163:=⟨Tryz.f163,Tryz.func163,by kernel_rfl,rfl⟩
theorem fn165:yT X 165:=⟨Tryz.f165,Tryz.func165,by kernel_rfl,rfl⟩
theorem fn168:yT X 168:=⟨Tryz.f168,Tryz.func168,by kernel_rfl,rfl⟩
theorem fn169:yT X 169:=⟨Tryz.f169,Tryz.func169,by kernel_rfl,rfl⟩
theorem fn170:yT X 170:=⟨Tryz.f170,Tryz.func170,by kernel_rfl,rfl⟩
theorem fn171:yT X 171:=⟨Tryz.f171,Tryz.func171,by kernel_rfl,rfl⟩
theorem fn172:yT X 172:=⟨Tryz.f172,Tryz.func172,by kernel_rfl,rfl⟩
theorem fn173:yT X 173:=⟨Tryz.f173,Tryz.func173,by kernel_rfl,rfl⟩
theorem fn174:yT X 174:=⟨Tryz.f174,Tryz.func174,by kernel_rfl,rfl⟩
theorem fn177:yT X 177:=⟨Tryz.f177,Tryz.func177,by kernel_rfl,rfl⟩
theorem fn183:yT X 183:=⟨Tryz.f183,Tryz.func183,by kernel_rfl,rfl⟩
theorem fn186:yT X 186:=⟨Tryz.f186,Tryz.func186,by kernel_rfl,rfl⟩
theorem fn187:yT X 187:=⟨Tryz.f187,Tryz.func187,by kernel_rfl,rfl⟩
theorem fn188:yT X 188:=⟨Tryz.f188,Tryz.func188,by kernel_rfl,rfl⟩
theorem fn189:yT X 189:=⟨Tryz.f189,Tryz.func189,by kernel_rfl,rfl⟩
theorem fn190:yT X 190:=⟨Tryz.f190,Tryz.func190,by kernel_rfl,rfl⟩
theorem fn191:yT X 191:=⟨Tryz.f191,Tryz.func191,by kernel_rfl,rfl⟩
theorem fn192:yT X 192:=⟨Tryz.f192,Tryz.func192,by kernel_rfl,rfl⟩
theorem fn193:yT X 193:=⟨Tryz.f193,Tryz.func193,by kernel_rfl,rfl⟩
theorem fn194:yT X 194:=⟨Tryz.f194,Tryz.func194,by kernel_rfl,rfl⟩
theorem fn195:yT X 195:=⟨Tryz.f195,Tryz.func195,by kernel_rfl,rfl⟩
theorem fn196:yT X 196:=⟨Tryz.f196,Tryz.func196,by kernel_rfl,rfl⟩
theorem fn197:yT X 197:=⟨Tryz.f197,Tryz.func197,by kernel_rfl,rfl⟩
theorem fn198:yT X 198:=⟨Tryz.f198,Tryz.func198,by kernel_rfl,rfl⟩
theorem fn199:yT X 199:=⟨Tryz.f199,Tryz.func199,by kernel_rfl,rfl⟩
theorem fn201:yT X 201:=⟨Tryz.f201,Tryz.func201,by kernel_rfl,rfl⟩
theorem fn209:yT X 209:=⟨Tryz.f209,Tryz.func209,by kernel_rfl,rfl⟩
theorem fn210:yT X 210:=⟨Tryz.f210,Tryz.func210,by kernel_rfl,rfl⟩
theorem fn211:yT X 211:=⟨Tryz.f211,Tryz.func211,by kernel_rfl,rfl⟩
theorem fn212:yT X 212:=⟨Tryz.f212,Tryz.func212,by kernel_rfl,rfl⟩
theorem fn213:yT X 213:=⟨Tryz.f213,Tryz.func213,by kernel_rfl,rfl⟩
theorem fn214:yT X 214:=⟨Tryz.f214,Tryz.func214,by kernel_rfl,rfl⟩
theorem fn215:yT X 215:=⟨Tryz.f215,Tryz.func215,by kernel_rfl,rfl⟩
theorem fn216:yT X 216:=⟨Tryz.f216,Tryz.func216,by kernel_rfl,rfl⟩
theorem fn217:yT X 217:=⟨Tryz.f217,Tryz.func217,by kernel_rfl,rfl⟩
theorem fn218:yT X 218:=⟨Tryz.f218,Tryz.func218,by kernel_rfl,rfl⟩
theorem fn219:yT X 219:=⟨Tryz.f219,Tryz.func219,by kernel_rfl,rfl⟩
theorem fn222:yT X 222:=⟨Tryz.f222,Tryz.func222,by kernel_rfl,rfl⟩
theorem fn223:yT X 223:=⟨Tryz.f223,Tryz.func223,by kernel_rfl,rfl⟩
theorem fn224:yT X 224:=⟨Tryz.f224,Tryz.func224,by kernel_rfl,rfl⟩
theorem fn225:yT X 225:=⟨Tryz.f225,Tryz.func225,by kernel_rfl,rfl⟩
theorem fn226:yT X 226:=⟨Tryz.f226,Tryz.func226,by kernel_rfl,rfl⟩
theorem fn227:yT X 227:=⟨Tryz.f227,Tryz.func227,by kernel_rfl,rfl⟩
theorem fn228:yT X 228:=⟨Tryz.f228,Tryz.func228,by kernel_rfl,rfl⟩
theorem fn229:yT X 229:=⟨Tryz.f229,Tryz.func229,by kernel_rfl,rfl⟩
theorem fn230:yT X 230:=⟨Tryz.f230,Tryz.func230,by kernel_rfl,rfl⟩
theorem fn231:yT X 231:=⟨Tryz.f231,Tryz.func231,by kernel_rfl,rfl⟩
theorem fn235:yT X 235:=⟨Tryz.f235,Tryz.func235,by kernel_rfl,rfl⟩
theorem fn236:yT X 236:=⟨Tryz.f236,Tryz.func236,by kernel_rfl,rfl⟩
theorem fn237:yT X 237:=⟨Tryz.f237,Tryz.func237,by kernel_rfl,rfl⟩
theorem fn238:yT X 238:=⟨Tryz.f238,Tryz.func238,by kernel_rfl,rfl⟩
theorem fn239:yT X 239:=⟨Tryz.f239,Tryz.func239,by kernel_rfl,rfl⟩
theorem fn240:yT X 240:=⟨Tryz.f240,Tryz.func240,by kernel_rfl,rfl⟩
theorem fn241:yT X 241:=⟨Tryz.f241,Tryz.func241,by kernel_rfl,rfl⟩
theorem fn242:yT X 242:=⟨Tryz.f242,Tryz.func242,by kernel_rfl,rfl⟩
theorem fn243:yT X 243:=⟨Tryz.f243,Tryz.func243,by kernel_rfl,rfl⟩
theorem fn244:yT X 244:=⟨Tryz.f244,Tryz.func244,by kernel_rfl,rfl⟩
theorem fn247:yT X 247:=⟨Tryz.f247,Tryz.func247,by kernel_rfl,rfl⟩
theorem fn248:yT X 248:=⟨Tryz.f248,Tryz.func248,by kernel_rfl,rfl⟩
theorem fn249:yT X 249:=⟨Tryz.f249,Tryz.func249,by kernel_rfl,rfl⟩
theorem fn250:yT X 250:=⟨Tryz.f250,Tryz.func250,by kernel_rfl,rfl⟩
theorem fn251:yT X 251:=⟨Tryz.f251,Tryz.func251,by kernel_rfl,rfl⟩
theorem fn252:yT X 252:=⟨Tryz.f252,Tryz.func252,by kernel_rfl,rfl⟩
theorem fn253:yT X 253:=⟨Tryz.f253,Tryz.func253,by kernel_rfl,rfl⟩
theorem fn254:yT X 254:=⟨Tryz.f254,Tryz.func254,by kernel_rfl,rfl⟩
theorem fn255:yT X 255:=⟨Tryz.f255,Tryz.func255,by kernel_rfl,rfl⟩
theorem fn256:yT X 256:=⟨Tryz.f256,Tryz.func256,by kernel_rfl,rfl⟩
theorem fn257:yT X 257:=⟨Tryz.f257,Tryz.func257,by kernel_rfl,rfl⟩
theorem fn258:yT X 258:=⟨Tryz.f258,Tryz.func258,by kernel_rfl,rfl⟩
theorem fn259:yT X 259:=⟨Tryz.f259,Tryz.func259,by kernel_rfl,rfl⟩
theorem fn260:yT X 260:=⟨Tryz.f260,Tryz.func260,by kernel_rfl,rfl⟩
theorem fn261:yT X 261:=⟨Tryz.f261,Tryz.func261,by kernel_rfl,rfl⟩
theorem fn262:yT X 262:=⟨Tryz.f262,Tryz.func262,by kernel_rfl,rfl⟩
theorem fn263:yT X 263:=⟨Tryz.f263,Tryz.func263,by kernel_rfl,rfl⟩
theorem fn264:yT X 264:=⟨Tryz.f264,Tryz.func264,by kernel_rfl,rfl⟩
theorem fn265:yT X 265:=⟨Tryz.f265,Tryz.func265,by kernel_rfl,rfl⟩
theorem fn266:yT X 266:=⟨Tryz.f266,Tryz.func266,by kernel_rfl,rfl⟩
theorem fn267:yT X 267:=⟨Tryz.f267,Tryz.func267,by kernel_rfl,rfl⟩
theorem fn268:yT X 268:=⟨Tryz.f268,Tryz.func268,by kernel_rfl,rfl⟩
theorem fn269:yT X 269:=⟨Tryz.f269,Tryz.func269,by kernel_rfl,rfl⟩
theorem fn270:yT X 270:=⟨Tryz.f270,Tryz.func270,by kernel_rfl,rfl⟩
theorem fn271:yT X 271:=⟨Tryz.f271,Tryz.func271,by kernel_rfl,rfl⟩
theorem fn272:yT X 272:=⟨Tryz.f272,Tryz.func272,by kernel_rfl,rfl⟩
theorem fn273:yT X 273:=⟨Tryz.f273,Tryz.func273,by kernel_rfl,rfl⟩
theorem fn274:yT X 274:=⟨Tryz.f274,Tryz.func274,by kernel_rfl,rfl⟩
theorem fn275:yT X 275:=⟨Tryz.f275,Tryz.func275,by kernel_rfl,rfl⟩
theorem fn276:yT X 276:=⟨Tryz.f276,Tryz.func276,by kernel_rfl,rfl⟩
theorem fn298:yT X 298:=⟨Tryz.f298,Tryz.func298,by kernel_rfl,rfl⟩
theorem fn299:yT X 299:=⟨Tryz.f299,Tryz.func299,by kernel_rfl,rfl⟩
theorem fn300:yT X 300:=⟨Tryz.f300,Tryz.func300,by kernel_rfl,rfl⟩
theorem fn301:yT X 301:=⟨Tryz.f301,Tryz.func301,by kernel_rfl,rfl⟩
theorem fn302:yT X 302:=⟨Tryz.f302,Tryz.func302,by kernel_rfl,rfl⟩
theorem fn303:yT X 303:=⟨Tryz.f303,Tryz.func303,by kernel_rfl,rfl⟩
theorem fn304:yT X 304:=⟨Tryz.f304,Tryz.func304,by kernel_rfl,rfl⟩
theorem fn305:yT X 305:=⟨Tryz.f305,Tryz.func305,by kernel_rfl,rfl⟩
end Go.Proofs.YtpmhiiemklhbhaaGreat.S
