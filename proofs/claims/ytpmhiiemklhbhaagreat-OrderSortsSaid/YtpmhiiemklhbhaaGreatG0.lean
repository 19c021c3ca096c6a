import Derived.Test.YtpmhiiemklhbhaaGreatSO
import Derived.Test.YtpmhiiemklhbhaaGreatSL
set_option maxHeartbeats 4000000
set_option linter.unusedVariables false
set_option linter.unusedSimpArgs false
set_option maxRecDepth 20000
namespace Go.Proofs.YtpmhiiemklhbhaaGreat.S
open Go Go.Sm
structure ref16_By where
  fCol:Int
  fDown:Bool
  deriving DecidableEq
structure tTr where
  fRoot:Option NP
structure grid_Grid where
  fRows:tTr
  fTail:Bool
  fEnd:Int
structure arena_Span where
  fAt:Int
  fN:Int
  deriving DecidableEq
def zm (x:arena_Span):Dat:=.agg [.val (.int .i64 x.fAt),.val (.int .i64 x.fN)]
theorem beq_arena_Span (p q:arena_Span):((p.fAt==q.fAt)&&((p.fN==q.fN)&&true))=(p==q):=by
 rw[Bool.eq_iff_iff]; cases p; cases q; simp[arena_Span.mk.injEq,r4]
structure scan_Field where
  fRaw:arena_Span
  fKind:Int
  fParts:List arena_Span
  deriving DecidableEq
def xD (x:scan_Field):Dat:=.agg [.val (.int .i64 x.fRaw.fAt),.val (.int .i64 x.fRaw.fN),.val (.int .i64 x.fKind),.sl 2 (List.map zm x.fParts)]
structure scan_Row where
  fFields:List scan_Field
  fEnd:Int
  deriving DecidableEq
def xZ (x:scan_Row):Dat:=.agg [.sl 4 (List.map xD x.fFields),.val (.int .i64 x.fEnd)]
structure piece_Text where
  fL:List arena_Span
  fN:Int
  deriving DecidableEq
structure cell_Cell where
  fText:piece_Text
  fRaw:arena_Span
  fKept:Bool
  deriving DecidableEq
structure row_Row where
  fCells:List cell_Cell
  fEnd:Int
  fHidden:Bool
  deriving DecidableEq
def zo (x:cell_Cell):Dat:=.agg [.sl 2 (List.map zm x.fText.fL),.val (.int .i64 x.fText.fN),.val (.int .i64 x.fRaw.fAt),.val (.int .i64 x.fRaw.fN),.val (.bool x.fKept)]
def z8 (x:row_Row):Dat:=.agg [.sl 5 (List.map zo x.fCells),.val (.int .i64 x.fEnd),.val (.bool x.fHidden)]
def xP (x:List row_Row):Dat:=.sl 3 (List.map z8 x)
structure tNd where
  fKids:List NP
  fItems:List row_Row
  fN:Int
def tP:Dat→Option arena_Span
| .agg [p0,p1]=>bnd ((dI .i64) p0) fun y0=>bnd ((dI .i64) p1) fun y1=>some ⟨y0,y1⟩
| _=>none
theorem d_arena_Span_eq {x:Dat} {y:arena_Span} (h:tP x=some y):x=zm y:=by
 unfold tP at h;split at h
 ·obtain⟨y0,h0,h⟩:=vt h; obtain⟨y1,h1,h⟩:=vt h;cases h;obtain rfl:=dI_eq h0; obtain rfl:=dI_eq h1;rfl
 ·cases h
theorem d_arena_Span_e (y:arena_Span):tP (zm y)=some y:=by simp only[tP,zm,bnd_r,dI_r]
def sD:Dat→Option cell_Cell
| .agg [p0,p1,p2,p3,p4]=>bnd ((dL 2 tP) p0) fun y0=>bnd ((dI .i64) p1) fun y1=>bnd ((dI .i64) p2) fun y2=>bnd ((dI .i64) p3) fun y3=>bnd (dB p4) fun y4=>some ⟨⟨y0,y1⟩,⟨y2,y3⟩,y4⟩
| _=>none
theorem d_cell_Cell_eq {x:Dat} {y:cell_Cell} (h:sD x=some y):x=zo y:=by
 unfold sD at h;split at h
 ·obtain⟨y0,h0,h⟩:=vt h; obtain⟨y1,h1,h⟩:=vt h; obtain⟨y2,h2,h⟩:=vt h; obtain⟨y3,h3,h⟩:=vt h; obtain⟨y4,h4,h⟩:=vt h;cases h;obtain rfl:=(dL_eq d_arena_Span_eq) h0; obtain rfl:=dI_eq h1; obtain rfl:=dI_eq h2; obtain rfl:=dI_eq h3; obtain rfl:=dB_eq h4;rfl
 ·cases h
theorem d_cell_Cell_e (y:cell_Cell):sD (zo y)=some y:=by simp only[sD,zo,bnd_r,dB_r,dI_r,dL_e d_arena_Span_e]
def qi:Dat→Option row_Row
| .agg [p0,p1,p2]=>bnd ((dL 5 sD) p0) fun y0=>bnd ((dI .i64) p1) fun y1=>bnd (dB p2) fun y2=>some ⟨y0,y1,y2⟩
| _=>none
theorem d_row_Row_eq {x:Dat} {y:row_Row} (h:qi x=some y):x=z8 y:=by
 unfold qi at h;split at h
 ·obtain⟨y0,h0,h⟩:=vt h; obtain⟨y1,h1,h⟩:=vt h; obtain⟨y2,h2,h⟩:=vt h;cases h;obtain rfl:=(dL_eq d_cell_Cell_eq) h0; obtain rfl:=dI_eq h1; obtain rfl:=dB_eq h2;rfl
 ·cases h
theorem d_row_Row_e (y:row_Row):qi (z8 y)=some y:=by simp only[qi,z8,bnd_r,dB_r,dI_r,dL_e d_cell_Cell_e]
def yG (y:tNd):NP:=⟨[.sl 1 (List.map eNP y.fKids),.sl 3 (List.map z8 y.fItems),.val (.int .i64 y.fN)]⟩
def vq:NP→Option tNd
| ⟨[p0,p1,p2]⟩=>bnd ((dL 1 dNP) p0) fun y0=>bnd ((dL 3 qi) p1) fun y1=>bnd ((dI .i64) p2) fun y2=>some ⟨y0,y1,y2⟩
| _=>none
theorem xk {x:NP} {y:tNd} (h:vq x=some y):x=yG y:=by
 unfold vq at h;split at h
 ·obtain⟨y0,h0,h⟩:=vt h; obtain⟨y1,h1,h⟩:=vt h; obtain⟨y2,h2,h⟩:=vt h;cases h;obtain rfl:=(dL_eq dNP_eq) h0; obtain rfl:=(dL_eq d_row_Row_eq) h1; obtain rfl:=dI_eq h2;rfl
 ·cases h
theorem o_tNd_c (y:tNd):vq (yG y)=some y:=by simp only[vq,yG,bnd_r,dI_r,dL_e dNP_e,dL_e d_row_Row_e]
def uD (x:List NP):Dat:=.sl 1 (List.map eNP x)
structure ref03_Span where
  fAt:Int
  fN:Int
  deriving DecidableEq
structure ref05_Field where
  fRaw:ref03_Span
  fKind:Int
  fBytes:List Int
  deriving DecidableEq
def xS (x:ref05_Field):Dat:=.agg [.val (.int .i64 x.fRaw.fAt),.val (.int .i64 x.fRaw.fN),.val (.int .i64 x.fKind),.sl 1 (List.map (eI .i64) x.fBytes)]
structure ref05_Row where
  fFields:List ref05_Field
  fEnd:Int
  deriving DecidableEq
def wz (x:ref05_Row):Dat:=.agg [.sl 4 (List.map xS x.fFields),.val (.int .i64 x.fEnd)]
structure ref07_Cell where
  fS:List UInt8
  fRaw:List UInt8
  fKept:Bool
  deriving DecidableEq
def zB (x:ref07_Cell):Dat:=.agg [.val (.string (bs x.fS)),.val (.string (bs x.fRaw)),.val (.bool x.fKept)]
structure ref08_Row where
  fCells:List ref07_Cell
  fEnd:Int
  fHidden:Bool
  deriving DecidableEq
def zb (x:ref08_Row):Dat:=.agg [.sl 3 (List.map zB x.fCells),.val (.int .i64 x.fEnd),.val (.bool x.fHidden)]
structure ref11_Grid where
  fRows:List ref08_Row
  fTail:Bool
  fEnd:Int
  deriving DecidableEq
structure order_By where
  fCol:Int
  fDown:Bool
  deriving DecidableEq
def ze (x:order_By):Dat:=.agg [.val (.int .i64 x.fCol),.val (.bool x.fDown)]
noncomputable def tU:Code:=lft (lft (rgt (lft (rgt (rgt (Tryz.f51.body.getD .skip))))))
noncomputable def tT:Code:=rgt (lft (rgt (lft (rgt (rgt (Tryz.f51.body.getD .skip))))))
structure wFr where
  fN:Option NP
  fFirst:Int
  fNext:Int
def yO (x:wFr):Dat:=.agg [(eOP x.fN),.val (.int .i64 x.fFirst),.val (.int .i64 x.fNext)]
def sP (x:List Int):Dat:=.sl 1 (List.map (eI .i64) x)
structure merge_run_int where
  fRest:List Int
  fWhich:Int
  deriving DecidableEq
theorem mt352_Push:IsMeth X 352 "Push" 304:={ get:=⟨Tryz.t352,{ name:= "Push",sig:=346,path:=#[],func:=some (304,true) },355,by kernel_rfl,by kernel_rfl,rfl,rfl,Tryz.underlying352⟩ }
def zl (x:merge_run_int):Dat:=.agg [.sl 1 (List.map (eI .i64) x.fRest),.val (.int .i64 x.fWhich)]
theorem mt352_Len:IsMeth X 352 "Len" 268:={ get:=⟨Tryz.t352,{ name:= "Len",sig:=46,path:=#[],func:=some (268,true) },355,by kernel_rfl,by kernel_rfl,rfl,rfl,Tryz.underlying352⟩ }
theorem mt352_Less:IsMeth X 352 "Less" 302:={ get:=⟨Tryz.t352,{ name:= "Less",sig:=363,path:=#[],func:=some (302,true) },355,by kernel_rfl,by kernel_rfl,rfl,rfl,Tryz.underlying352⟩ }
theorem mt352_Swap:IsMeth X 352 "Swap" 305:={ get:=⟨Tryz.t352,{ name:= "Swap",sig:=347,path:=#[],func:=some (305,true) },355,by kernel_rfl,by kernel_rfl,rfl,rfl,Tryz.underlying352⟩ }
theorem mt352_Pop:IsMeth X 352 "Pop" 303:={ get:=⟨Tryz.t352,{ name:= "Pop",sig:=349,path:=#[],func:=some (303,true) },355,by kernel_rfl,by kernel_rfl,rfl,rfl,Tryz.underlying352⟩ }
noncomputable def tE:Code:=lft (lft (rgt (lft (rgt (rgt (Tryz.f100.body.getD .skip))))))
noncomputable def tD:Code:=rgt (lft (rgt (lft (rgt (rgt (Tryz.f100.body.getD .skip))))))
noncomputable def uS:Code:=lft (lft (rgt (lft (rgt (rgt (Tryz.f69.body.getD .skip))))))
noncomputable def uR:Code:=rgt (lft (rgt (lft (rgt (rgt (Tryz.f69.body.getD .skip))))))
structure merge_run_damier_row_Row where
  fRest:List row_Row
  fWhich:Int
  deriving DecidableEq
theorem mt318_Push:IsMeth X 318 "Push" 300:={ get:=⟨Tryz.t318,{ name:= "Push",sig:=346,path:=#[],func:=some (300,true) },321,by kernel_rfl,by kernel_rfl,rfl,rfl,Tryz.underlying318⟩ }
def za (x:merge_run_damier_row_Row):Dat:=.agg [.sl 3 (List.map z8 x.fRest),.val (.int .i64 x.fWhich)]
theorem mt318_Len:IsMeth X 318 "Len" 242:={ get:=⟨Tryz.t318,{ name:= "Len",sig:=46,path:=#[],func:=some (242,true) },321,by kernel_rfl,by kernel_rfl,rfl,rfl,Tryz.underlying318⟩ }
theorem mt318_Less:IsMeth X 318 "Less" 298:={ get:=⟨Tryz.t318,{ name:= "Less",sig:=363,path:=#[],func:=some (298,true) },321,by kernel_rfl,by kernel_rfl,rfl,rfl,Tryz.underlying318⟩ }
theorem mt318_Swap:IsMeth X 318 "Swap" 301:={ get:=⟨Tryz.t318,{ name:= "Swap",sig:=347,path:=#[],func:=some (301,true) },321,by kernel_rfl,by kernel_rfl,rfl,rfl,Tryz.underlying318⟩ }
theorem mt318_Pop:IsMeth X 318 "Pop" 299:={ get:=⟨Tryz.t318,{ name:= "Pop",sig:=349,path:=#[],func:=some (299,true) },321,by kernel_rfl,by kernel_rfl,rfl,rfl,Tryz.underlying318⟩ }
def zP (x:ref16_By):Dat:=.agg [.val (.int .i64 x.fCol),.val (.bool x.fDown)]
theorem beq_ref07_Cell (p q:ref07_Cell):(((bs p.fS).toList==(bs q.fS).toList)&&(((bs p.fRaw).toList==(bs q.fRaw).toList)&&((p.fKept==q.fKept)&&true)))=(p==q):=by
 rw[Bool.eq_iff_iff]; cases p; cases q; simp[ref07_Cell.mk.injEq,r4]
theorem zW:X.P.follows .mixedOrders=true:=rfl
theorem fn12:yL X 12:=⟨Tryz.f12,Tryz.func12,by kernel_rfl,rfl⟩
theorem fn14:yL X 14:=⟨Tryz.f14,Tryz.func14,by kernel_rfl,rfl⟩
theorem fn15:yL X 15:=⟨Tryz.f15,Tryz.func15,by kernel_rfl,rfl⟩
theorem fn18:yL X 18:=⟨Tryz.f18,Tryz.func18,by kernel_rfl,rfl⟩
theorem fn19:yL X 19:=⟨Tryz.f19,Tryz.func19,by kernel_rfl,rfl⟩
theorem fn22:yL X 22:=⟨Tryz.f22,Tryz.func22,by kernel_rfl,rfl⟩
theorem fn24:yL X 24:=⟨Tryz.f24,Tryz.func24,by kernel_rfl,rfl⟩
theorem fn30:yL X 30:=⟨Tryz.f30,Tryz.func30,by kernel_rfl,rfl⟩
theorem fn39:yL X 39:=⟨Tryz.f39,Tryz.func39,by kernel_rfl,rfl⟩
theorem fn40:yL X 40:=⟨Tryz.f40,Tryz.func40,by kernel_rfl,rfl⟩
theorem fn41:yL X 41:=⟨Tryz.f41,Tryz.func41,by kernel_rfl,rfl⟩
theorem fn42:yL X 42:=⟨Tryz.f42,Tryz.func42,by kernel_rfl,rfl⟩
theorem fn49:yL X 49:=⟨Tryz.f49,Tryz.func49,by kernel_rfl,rfl⟩
theorem fn50:yL X 50:=⟨Tryz.f50,Tryz.func50,by kernel_rfl,rfl⟩
theorem fn51:yL X 51:=⟨Tryz.f51,Tryz.func51,by kernel_rfl,rfl⟩
theorem fn54:yL X 54:=⟨Tryz.f54,Tryz.func54,by kernel_rfl,rfl⟩
theorem fn55:yL X 55:=⟨Tryz.f55,Tryz.func55,by kernel_rfl,rfl⟩
theorem fn56:yL X 56:=⟨Tryz.f56,Tryz.func56,by kernel_rfl,rfl⟩
theorem fn57:yL X 57:=⟨Tryz.f57,Tryz.func57,by kernel_rfl,rfl⟩
theorem fn58:yL X 58:=⟨Tryz.f58,Tryz.func58,by kernel_rfl,rfl⟩
theorem fn59:yL X 59:=⟨Tryz.f59,Tryz.func59,by kernel_rfl,rfl⟩
theorem fn60:yL X 60:=⟨Tryz.f60,Tryz.func60,by kernel_rfl,rfl⟩
theorem fn61:yL X 61:=⟨Tryz.f61,Tryz.func61,by kernel_rfl,rfl⟩
theorem fn62:yL X 62:=⟨Tryz.f62,Tryz.func62,by kernel_rfl,rfl⟩
theorem fn63:yL X 63:=⟨Tryz.f63,Tryz.func63,by kernel_rfl,rfl⟩
theorem fn64:yL X 64:=⟨Tryz.f64,Tryz.func64,by kernel_rfl,rfl⟩
theorem fn65:yL X 65:=⟨Tryz.f65,Tryz.func65,by kernel_rfl,rfl⟩
theorem fn66:yL X 66:=⟨Tryz.f66,Tryz.func66,by kernel_rfl,rfl⟩
theorem fn67:yL X 67:=⟨Tryz.f67,Tryz.func67,by kernel_rfl,rfl⟩
theorem fn68:yL X 68:=⟨Tryz.f68,Tryz.func68,by kernel_rfl,rfl⟩
theorem fn69:yL X 69:=⟨Tryz.f69,Tryz.func69,by kernel_rfl,rfl⟩
theorem fn75:yL X 75:=⟨Tryz.f75,Tryz.func75,by kernel_rfl,rfl⟩
theorem fn79:yL X 79:=⟨Tryz.f79,Tryz.func79,by kernel_rfl,rfl⟩
theorem fn80:yL X 80:=⟨Tryz.f80,Tryz.func80,by kernel_rfl,rfl⟩
theorem fn81:yL X 81:=⟨Tryz.f81,Tryz.func81,by kernel_rfl,rfl⟩
theorem fn98:yL X 98:=⟨Tryz.f98,Tryz.func98,by kernel_rfl,rfl⟩
theorem fn99:yL X 99:=⟨Tryz.f99,Tryz.func99,by kernel_rfl,rfl⟩
theorem fn100:yL X 100:=⟨Tryz.f100,Tryz.func100,by kernel_rfl,rfl⟩
theorem fn101:yL X 101:=⟨Tryz.f101,Tryz.func101,by kernel_rfl,rfl⟩
theorem fn102:yL X 102:=⟨Tryz.f102,Tryz.func102,by kernel_rfl,rfl⟩
theorem fn103:yL X 103:=⟨Tryz.f103,Tryz.func103,by kernel_rfl,rfl⟩
theorem fn104:yL X 104:=⟨Tryz.f104,Tryz.func104,by kernel_rfl,rfl⟩
theorem fn105:yL X 105:=⟨Tryz.f105,Tryz.func105,by kernel_rfl,rfl⟩
theorem fn106:yL X 106:=⟨Tryz.f106,Tryz.func106,by kernel_rfl,rfl⟩
theorem fn107:yL X 107:=⟨Tryz.f107,Tryz.func107,by kernel_rfl,rfl⟩
theorem fn108:yL X 108:=⟨Tryz.f108,Tryz.func108,by kernel_rfl,rfl⟩
theorem fn109:yL X 109:=⟨Tryz.f109,Tryz.func109,by kernel_rfl,rfl⟩
theorem fn110:yL X 110:=⟨Tryz.f110,Tryz.func110,by kernel_rfl,rfl⟩
theorem fn111:yL X 111:=⟨Tryz.f111,Tryz.func111,by kernel_rfl,rfl⟩
theorem fn113:yL X 113:=⟨Tryz.f113,Tryz.func113,by kernel_rfl,rfl⟩
theorem fn120:yL X 120:=⟨Tryz.f120,Tryz.func120,by kernel_rfl,rfl⟩
theorem fn121:yL X 121:=⟨Tryz.f121,Tryz.func121,by kernel_rfl,rfl⟩
theorem fn122:yL X 122:=⟨Tryz.f122,Tryz.func122,by kernel_rfl,rfl⟩
theorem fn124:yL X 124:=⟨Tryz.f124,Tryz.func124,by kernel_rfl,rfl⟩
theorem fn125:yL X 125:=⟨Tryz.f125,Tryz.func125,by kernel_rfl,rfl⟩
theorem fn126:yL X 126:=⟨Tryz.f126,Tryz.func126,by kernel_rfl,rfl⟩
theorem fn127:yL X 127:=⟨Tryz.f127,Tryz.func127,by kernel_rfl,rfl⟩
theorem fn128:yL X 128:=⟨Tryz.f128,Tryz.func128,by kernel_rfl,rfl⟩
theorem fn129:yL X 129:=⟨Tryz.f129,Tryz.func129,by kernel_rfl,rfl⟩
theorem fn130:yL X 130:=⟨Tryz.f130,Tryz.func130,by kernel_rfl,rfl⟩
theorem fn131:yL X 131:=⟨Tryz.f131,Tryz.func131,by kernel_rfl,rfl⟩
theorem fn132:yL X 132:=⟨Tryz.f132,Tryz.func132,by kernel_rfl,rfl⟩
theorem fn133:yL X 133:=⟨Tryz.f133,Tryz.func133,by kernel_rfl,rfl⟩
theorem fn134:yL X 134:=⟨Tryz.f134,Tryz.func134,by kernel_rfl,rfl⟩
theorem fn135:yL X 135:=⟨Tryz.f135,Tryz.func135,by kernel_rfl,rfl⟩
theorem fn136:yL X 136:=⟨Tryz.f136,Tryz.func136,by kernel_rfl,rfl⟩
theorem fn144:yL X 144:=⟨Tryz.f144,Tryz.func144,by kernel_rfl,rfl⟩
theorem fn145:yL X 145:=⟨Tryz.f145,Tryz.func145,by kernel_rfl,rfl⟩
theorem fn146:yL X 146:=⟨Tryz.f146,Tryz.func146,by kernel_rfl,rfl⟩
theorem fn147:yL X 147:=⟨Tryz.f147,Tryz.func147,by kernel_rfl,rfl⟩
theorem fn148:yL X 148:=⟨Tryz.f148,Tryz.func148,by kernel_rfl,rfl⟩
theorem fn149:yL X 149:=⟨Tryz.f149,Tryz.func149,by kernel_rfl,rfl⟩
theorem fn150:yL X 150:=⟨Tryz.f150,Tryz.func150,by kernel_rfl,rfl⟩
theorem fn151:yL X 151:=⟨Tryz.f151,Tryz.func151,by kernel_rfl,rfl⟩
theorem fn152:yL X 152:=⟨Tryz.f152,Tryz.func152,by kernel_rfl,rfl⟩
theorem fn153:yL X 153:=⟨Tryz.f153,Tryz.func153,by kernel_rfl,rfl⟩
theorem fn158:yL X 158:=⟨Tryz.f158,Tryz.func158,by kernel_rfl,rfl⟩
theorem fn163:yL X 163:=⟨Tryz.f163,Tryz.func163,by kernel_rfl,rfl⟩
theorem fn165:yL X 165:=⟨Tryz.f165,Tryz.func165,by kernel_rfl,rfl⟩
theorem fn168:yL X 168:=⟨Tryz.f168,Tryz.func168,by kernel_rfl,rfl⟩
theorem fn169:yL X 169:=⟨Tryz.f169,Tryz.func169,by kernel_rfl,rfl⟩
theorem fn170:yL X 170:=⟨Tryz.f170,Tryz.func170,by kernel_rfl,rfl⟩
theorem fn171:yL X 171:=⟨Tryz.f171,Tryz.func171,by kernel_rfl,rfl⟩
theorem fn172:yL X 172:=⟨Tryz.f172,Tryz.func172,by kernel_rfl,rfl⟩
theorem fn173:yL X 173:=⟨Tryz.f173,Tryz.func173,by kernel_rfl,rfl⟩
theorem fn174:yL X 174:=⟨Tryz.f174,Tryz.func174,by kernel_rfl,rfl⟩
theorem fn183:yL X 183:=⟨Tryz.f183,Tryz.func183,by kernel_rfl,rfl⟩
theorem fn186:yL X 186:=⟨Tryz.f186,Tryz.func186,by kernel_rfl,rfl⟩
theorem fn187:yL X 187:=⟨Tryz.f187,Tryz.func187,by kernel_rfl,rfl⟩
theorem fn188:yL X 188:=⟨Tryz.f188,Tryz.func188,by kernel_rfl,rfl⟩
theorem fn189:yL X 189:=⟨Tryz.f189,Tryz.func189,by kernel_rfl,rfl⟩
theorem fn190:yL X 190:=⟨Tryz.f190,Tryz.func190,by kernel_rfl,rfl⟩
theorem fn191:yL X 191:=⟨Tryz.f191,Tryz.func191,by kernel_rfl,rfl⟩
theorem fn192:yL X 192:=⟨Tryz.f192,Tryz.func192,by kernel_rfl,rfl⟩
theorem fn193:yL X 193:=⟨Tryz.f193,Tryz.func193,by kernel_rfl,rfl⟩
theorem fn194:yL X 194:=⟨Tryz.f194,Tryz.func194,by kernel_rfl,rfl⟩
theorem fn195:yL X 195:=⟨Tryz.f195,Tryz.func195,by kernel_rfl,rfl⟩
theorem fn196:yL X 196:=⟨Tryz.f196,Tryz.func196,by kernel_rfl,rfl⟩
theorem fn197:yL X 197:=⟨Tryz.f197,Tryz.func197,by kernel_rfl,rfl⟩
theorem fn198:yL X 198:=⟨Tryz.f198,Tryz.func198,by kernel_rfl,rfl⟩
theorem fn199:yL X 199:=⟨Tryz.f199,Tryz.func199,by kernel_rfl,rfl⟩
theorem fn201:yL X 201:=⟨Tryz.f201,Tryz.func201,by kernel_rfl,rfl⟩
theorem fn209:yL X 209:=⟨Tryz.f209,Tryz.func209,by kernel_rfl,rfl⟩
theorem fn210:yL X 210:=⟨Tryz.f210,Tryz.func210,by kernel_rfl,rfl⟩
theorem fn211:yL X 211:=⟨Tryz.f211,Tryz.func211,by kernel_rfl,rfl⟩
theorem fn212:yL X 212:=⟨Tryz.f212,Tryz.func212,by kernel_rfl,rfl⟩
theorem fn213:yL X 213:=⟨Tryz.f213,Tryz.func213,by kernel_rfl,rfl⟩
theorem fn214:yL X 214:=⟨Tryz.f214,Tryz.func214,by kernel_rfl,rfl⟩
theorem fn215:yL X 215:=⟨Tryz.f215,Tryz.func215,by kernel_rfl,rfl⟩
theorem fn216:yL X 216:=⟨Tryz.f216,Tryz.func216,by kernel_rfl,rfl⟩
theorem fn217:yL X 217:=⟨Tryz.f217,Tryz.func217,by kernel_rfl,rfl⟩
theorem fn218:yL X 218:=⟨Tryz.f218,Tryz.func218,by kernel_rfl,rfl⟩
theorem fn219:yL X 219:=⟨Tryz.f219,Tryz.func219,by kernel_rfl,rfl⟩
theorem fn222:yL X 222:=⟨Tryz.f222,Tryz.func222,by kernel_rfl,rfl⟩
theorem fn223:yL X 223:=⟨Tryz.f223,Tryz.func223,by kernel_rfl,rfl⟩
theorem fn224:yL X 224:=⟨Tryz.f224,Tryz.func224,by kernel_rfl,rfl⟩
theorem fn225:yL X 225:=⟨Tryz.f225,Tryz.func225,by kernel_rfl,rfl⟩
theorem fn226:yL X 226:=⟨Tryz.f226,Tryz.func226,by kernel_rfl,rfl⟩
theorem fn227:yL X 227:=⟨Tryz.f227,Tryz.func227,by kernel_rfl,rfl⟩
theorem fn228:yL X 228:=⟨Tryz.f228,Tryz.func228,by kernel_rfl,rfl⟩
theorem fn229:yL X 229:=⟨Tryz.f229,Tryz.func229,by kernel_rfl,rfl⟩
theorem fn230:yL X 230:=⟨Tryz.f230,Tryz.func230,by kernel_rfl,rfl⟩
theorem fn231:yL X 231:=⟨Tryz.f231,Tryz.func231,by kernel_rfl,rfl⟩
theorem fn235:yL X 235:=⟨Tryz.f235,Tryz.func235,by kernel_rfl,rfl⟩
theorem fn236:yL X 236:=⟨Tryz.f236,Tryz.func236,by kernel_rfl,rfl⟩
theorem fn237:yL X 237:=⟨Tryz.f237,Tryz.func237,by kernel_rfl,rfl⟩
theorem fn238:yL X 238:=⟨Tryz.f238,Tryz.func238,by kernel_rfl,rfl⟩
theorem fn239:yL X 239:=⟨Tryz.f239,Tryz.func239,by kernel_rfl,rfl⟩
theorem fn240:yL X 240:=⟨Tryz.f240,Tryz.func240,by kernel_rfl,rfl⟩
theorem fn241:yL X 241:=⟨Tryz.f241,Tryz.func241,by kernel_rfl,rfl⟩
theorem fn242:yL X 242:=⟨Tryz.f242,Tryz.func242,by kernel_rfl,rfl⟩
theorem fn243:yL X 243:=⟨Tryz.f243,Tryz.func243,by kernel_rfl,rfl⟩
theorem fn244:yL X 244:=⟨Tryz.f244,Tryz.func244,by kernel_rfl,rfl⟩
theorem fn247:yL X 247:=⟨Tryz.f247,Tryz.func247,by kernel_rfl,rfl⟩
theorem fn248:yL X 248:=⟨Tryz.f248,Tryz.func248,by kernel_rfl,rfl⟩
theorem fn249:yL X 249:=⟨Tryz.f249,Tryz.func249,by kernel_rfl,rfl⟩
theorem fn250:yL X 250:=⟨Tryz.f250,Tryz.func250,by kernel_rfl,rfl⟩
theorem fn251:yL X 251:=⟨Tryz.f251,Tryz.func251,by kernel_rfl,rfl⟩
theorem fn252:yL X 252:=⟨Tryz.f252,Tryz.func252,by kernel_rfl,rfl⟩
theorem fn253:yL X 253:=⟨Tryz.f253,Tryz.func253,by kernel_rfl,rfl⟩
theorem fn254:yL X 254:=⟨Tryz.f254,Tryz.func254,by kernel_rfl,rfl⟩
theorem fn255:yL X 255:=⟨Tryz.f255,Tryz.func255,by kernel_rfl,rfl⟩
theorem fn256:yL X 256:=⟨Tryz.f256,Tryz.func256,by kernel_rfl,rfl⟩
theorem fn257:yL X 257:=⟨Tryz.f257,Tryz.func257,by kernel_rfl,rfl⟩
theorem fn258:yL X 258:=⟨Tryz.f258,Tryz.func258,by kernel_rfl,rfl⟩
theorem fn259:yL X 259:=⟨Tryz.f259,Tryz.func259,by kernel_rfl,rfl⟩
theorem fn260:yL X 260:=⟨Tryz.f260,Tryz.func260,by kernel_rfl,rfl⟩
theorem fn261:yL X 261:=⟨Tryz.f261,Tryz.func261,by kernel_rfl,rfl⟩
theorem fn262:yL X 262:=⟨Tryz.f262,Tryz.func262,by kernel_rfl,rfl⟩
theorem fn263:yL X 263:=⟨Tryz.f263,Tryz.func263,by kernel_rfl,rfl⟩
theorem fn264:yL X 264:=⟨Tryz.f264,Tryz.func264,by kernel_rfl,rfl⟩
theorem fn265:yL X 265:=⟨Tryz.f265,Tryz.func265,by kernel_rfl,rfl⟩
theorem fn266:yL X 266:=⟨Tryz.f266,Tryz.func266,by kernel_rfl,rfl⟩
theorem fn267:yL X 267:=⟨Tryz.f267,Tryz.func267,by kernel_rfl,rfl⟩
theorem fn268:yL X 268:=⟨Tryz.f268,Tryz.func268,by kernel_rfl,rfl⟩
theorem fn269:yL X 269:=⟨Tryz.f269,Tryz.func269,by kernel_rfl,rfl⟩
theorem fn270:yL X 270:=⟨Tryz.f270,Tryz.func270,by kernel_rfl,rfl⟩
theorem fn271:yL X 271:=⟨Tryz.f271,Tryz.func271,by kernel_rfl,rfl⟩
theorem fn272:yL X 272:=⟨Tryz.f272,Tryz.func272,by kernel_rfl,rfl⟩
theorem fn273:yL X 273:=⟨Tryz.f273,Tryz.func273,by kernel_rfl,rfl⟩
theorem fn274:yL X 274:=⟨Tryz.f274,Tryz.func274,by kernel_rfl,rfl⟩
theorem fn275:yL X 275:=⟨Tryz.f275,Tryz.func275,by kernel_rfl,rfl⟩
theorem fn276:yL X 276:=⟨Tryz.f276,Tryz.func276,by kernel_rfl,rfl⟩
theorem fn298:yL X 298:=⟨Tryz.f298,Tryz.func298,by kernel_rfl,rfl⟩
theorem fn299:yL X 299:=⟨Tryz.f299,Tryz.func299,by kernel_rfl,rfl⟩
theorem fn300:yL X 300:=⟨Tryz.f300,Tryz.func300,by kernel_rfl,rfl⟩
theorem fn301:yL X 301:=⟨Tryz.f301,Tryz.func301,by kernel_rfl,rfl⟩
theorem fn302:yL X 302:=⟨Tryz.f302,Tryz.func302,by kernel_rfl,rfl⟩
theorem fn303:yL X 303:=⟨Tryz.f303,Tryz.func303,by kernel_rfl,rfl⟩
theorem fn304:yL X 304:=⟨Tryz.f304,Tryz.func304,by kernel_rfl,rfl⟩
theorem fn305:yL X 305:=⟨Tryz.f305,Tryz.func305,by kernel_rfl,rfl⟩
end Go.Proofs.YtpmhiiemklhbhaaGreat.S
