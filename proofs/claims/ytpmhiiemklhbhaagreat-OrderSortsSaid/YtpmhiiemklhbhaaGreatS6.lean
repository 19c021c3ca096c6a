import Derived.Test.YtpmhiiemklhbhaaGreatS5
import Derived.Laws.Bits
import Derived.Lib.ConvBytes
import Derived.Laws.BytesString
import Derived.Laws.AppendOwn
set_option linter.unusedVariables false
namespace Go.Sm
open Go.RowKit Go.Lib
theorem append_run {P:Program} (w:World) (t ty e:TypeId) (i:TypeInfo) (z:Value) (ht:P.underlying t=some (.slice e)) (hi:P.info? e=some i) (hz:i.zero=some z) (hzs:z.cells.size=i.size)
 (v:Value) (vs us:List Value) (k:Nat) (hvl:vs.length=k*i.size)
 (hv:(v = .slice none 0 0∧k=0∧vs=[]∧us=[])∨∃ g c,v = .slice (some ⟨g,0,none⟩) k c∧w.heap[g]? = some (.cells (vs++us).toArray e (0,0))∧k≤c∧c≤maxLen∧c*i.size=(vs++us).length)
 (a:Addr) (m c:Nat) (news:List Value) (hl:news.length=m*i.size) (hnews:∀ j u,news[j]? = some u→w.cell? (a.add j)=some u) (h1:∀ u∈news,one u=true)
 (hm:0<m) (h63:k+m≤maxLen) (hbytes:(k+m)*i.bytes≤140737488355328) :
 ∃ b' c' us' w',(Builtin.append_ #[t,t] ty #[v,.slice (some a) m c]).run P w = .ok (.slice (some ⟨b',0,none⟩) (k+m) c') w'∧w'.heap[b']? = some (.cells (vs++news++us').toArray e (0,0)) ∧
  k+m≤c'∧c'≤maxLen∧c'*i.size=(vs++news++us').length∧Chg w w' (fun b=>v.ownBlock=some b)∧(v.ownBlock=some b'∨(b'=w.heap.size∧w.heap.size<w'.heap.size)):=by
 have hsmall:k+m≤9223372036854775807:=by simp only[maxLen] at h63; omega
 rcases hv with ⟨rfl,rfl,rfl,rfl⟩|⟨g,cap,rfl,hg,hn,hcm,hcs⟩
 ·have hr:=run_append_nil (P:=P) w t ty e i z ht hi hz a m c news hl hnews hm (by omega) (by rw[Nat.zero_add] at hbytes; omega);simp only[Nat.zero_add,List.nil_append] at h63 ⊢;refine⟨_,_,(Builtin.zeroCells z.cells (grownCap w m 0 e-m)).toList,_,hr,?_,grownCap_ge w m 0 e,grownCap_le_maxLen w m 0 e h63,?_,(Chg.drew w _).trans (Chg.alloc _ _ _),.inr ⟨rfl,by simp⟩⟩
  ·show (w.drew.alloc _).heap[w.drew.heap.size]? = _;rw[vH w.drew]; simp
  ·have:=grownCap_ge w m 0 e;simp only[List.length_append,Array.length_toList,size_zeroCells,hzs,hl,← Nat.add_mul];congr 1; omega
 ·by_cases hroom:k+m≤cap
  ·have hfit:k*i.size+news.length≤(vs++us).toArray.size:=by
    rw[hl,List.size_toArray,← hcs,← Nat.add_mul]; exact Nat.mul_le_mul_right _ hroom
   have hr:=run_append_room (P:=P) w t ty e i ht hi g k cap (vs++us).toArray hg a m c news hl hnews (fun u hu=>oneCell_of (h1 u hu)) hroom hfit;have hrow:((vs++us).toArray.toList.take (k*i.size)++news++(vs++us).toArray.toList.drop (k*i.size+news.length))=vs++news++us.drop news.length:=by
    rw[← hvl];simp
   rw[hrow] at hr;refine⟨_,_,us.drop news.length,_,hr,setRow_heap w g _ _ e _ hg,hroom,hcm,?_,⟨rfl,rfl,rfl,by simp[World.setRow],fun b _ hb=>setRow_other w g b _ (fun e'=>hb (by simp[Value.ownBlock,e']))⟩,.inl rfl⟩;rw[hcs];simp only[List.size_toArray,List.length_append,List.length_drop] at hfit ⊢;omega
  ·have holds:∀ j u,vs[j]? = some u→w.cell? ((⟨g,0,none⟩:Addr).add j)=some u:=fun j u hj=>by
    have hadd:(⟨g,0,none⟩:Addr).add j=⟨g,j,none⟩:=by unfold Addr.add; split <;> simp_all
    rw[hadd,cell_of_row w g j _ e (0,0) hg];have hlt:=(List.getElem?_eq_some_iff.1 hj).1;simp[List.getElem?_append_left hlt,hj]
   have hr:=run_append_grow (P:=P) w t ty e i z ht hi hz ⟨g,0,none⟩ k cap vs hvl holds a m c news hl hnews (by omega) (by omega) (growslice_fits (by omega) hbytes);refine⟨_,_,(Builtin.zeroCells z.cells (grownCap w (k+m) cap e-(k+m))).toList,_,hr,?_,grownCap_ge w (k+m) cap e,grownCap_le_maxLen w (k+m) cap e h63,?_,(Chg.drew w _).trans (Chg.alloc _ _ _),.inr ⟨rfl,by simp⟩⟩
   ·show (w.drew.alloc _).heap[w.drew.heap.size]? = _;rw[vH w.drew]; simp
   ·have:=grownCap_ge w (k+m) cap e;simp only[List.length_append,Array.length_toList,size_zeroCells,hzs,hl,hvl,← Nat.add_mul];congr 1; omega
section
variable {X:Prg} {ops:Array Oper} {rest:List Oper} {op:Op} {t:Nat} {sl:List (Nat × Dat)} {ow:List Own} {d:Dat} {n:Nat} {Q:Exit→St→Prop} {w:World} {ok:Nat→Prop} {S:St}
theorem yield_bool {G:Gh} {a:Act} (hr:Rep G S a w ok) {j tj:Nat} {oj:Oper} {b:Bool} (hj:ops[j]? = some oj) (hd:oj.dst=some tj) (hv:lk S.sl tj=some (.val (.bool b))):yielded ops a.tmps j=some b:=by
 have h1:=(hr.sl tj _ hv);have h2:=h1.2.bool_inv;have hlt:tj<a.tmps.size:=Nat.lt_of_lt_of_le h1.1 hr.hs;unfold yielded;have:a.tmps[tj]? = some (.bool b):=by
  rw[Array.getD_eq_getD_getElem?,Array.getElem?_eq_getElem hlt] at h2;rw[Array.getElem?_eq_getElem hlt]; exact congrArg some h2
 simp[hj,hd,this]
theorem yield_none {G:Gh} {a:Act} (hr:Rep G S a w ok) {j tj:Nat} {oj:Oper} (hj:ops[j]? = some oj) (hd:oj.dst=some tj) (hv:lk S.sl tj=some (.tup [])):yielded ops a.tmps j=none:=by
 have h1:=(hr.sl tj _ hv);obtain⟨vs,h2,h3⟩:=h1.2.tup_inv;cases h3;have hlt:tj<a.tmps.size:=Nat.lt_of_lt_of_le h1.1 hr.hs;unfold yielded;have:a.tmps[tj]? = some (.tuple #[]):=by
  rw[Array.getD_eq_getD_getElem?,Array.getElem?_eq_getElem hlt] at h2;rw[Array.getElem?_eq_getElem hlt]; exact congrArg some h2
 simp[hj,hd,this]
theorem TL.on {o:Oper} {j tj:Nat} {b c:Bool} {oj:Oper} (hg:o.guard=some (j,c)) (hj:ops[j]? = some oj) (hd:oj.dst=some tj) (hv:lk S.sl tj=some (.val (.bool b))) (hb:b=c) (hk:TL X ops ({ o with guard:=none }::rest) S Q):TL X ops (o::rest) S Q:=fun G a w ok hr=>by
 subst hb;have hy:=yield_bool hr hj hd hv;have h3:=hk G a w ok hr;unfold wpListIn at h3 ⊢;have hw:Region.wanted o (yielded ops a.tmps)=true:=by simp[Region.wanted,hg,hy]
 rw[if_pos hw];rw[if_pos (by simp[Region.wanted])] at h3;exact h3
theorem TL.off {o:Oper} {j tj:Nat} {b c:Bool} {oj:Oper} (hg:o.guard=some (j,c)) (hj:ops[j]? = some oj) (hd:oj.dst=some tj) (hv:lk sl tj=some (.val (.bool b))) (hb:b = !c) (hdst:o.dst=some t) (ht:Nat.blt t n=true) (hk:TL X ops rest ⟨(t,.tup [])::sl,ow,n⟩ Q):TL X ops (o::rest) ⟨sl,ow,n⟩ Q:=fun G a w ok hr=>by
 have hy:=yield_bool hr hj hd hv;unfold wpListIn;have hw:Region.wanted o (yielded ops a.tmps)=false:=by simp[Region.wanted,hg,hy,hb]
 rw[if_neg (by simp[hw]),hdst];exact⟨fun _ _=>trivial,hk G _ w ok (hr.put ht (.tup (vs:=[]) .nil))⟩
theorem sT {o:Oper} {j tj:Nat} {c:Bool} {oj:Oper} (hg:o.guard=some (j,c)) (hj:ops[j]? = some oj) (hd:oj.dst=some tj) (hv:lk sl tj=some (.tup [])) (hdst:o.dst=some t) (ht:Nat.blt t n=true) (hk:TL X ops rest ⟨(t,.tup [])::sl,ow,n⟩ Q):TL X ops (o::rest) ⟨sl,ow,n⟩ Q:=fun G a w ok hr=>by
 have hy:=yield_none hr hj hd hv;unfold wpListIn;have hw:Region.wanted o (yielded ops a.tmps)=false:=by simp[Region.wanted,hg,hy]
 rw[if_neg (by simp[hw]),hdst];exact⟨fun _ _=>trivial,hk G _ w ok (hr.put ht (.tup (vs:=[]) .nil))⟩
theorem zt {c x y:Operand} {b:Bool} (hc:ev sl c=some (.val (.bool b))) (hb:b=true) (hx:ev sl x=some d):OpR X (.pick c x y) sl ow (fun _=>d) (fun _=>ow):=.of_run fun a w ok kn dst ty pos after g=>by
 subst hb;exact⟨a.eval x,by simp[execOp,(kn c _ hc).bool_inv,asBool],kn x _ hx⟩
theorem zu {c x y:Operand} {b:Bool} (hc:ev sl c=some (.val (.bool b))) (hb:b=false) (hy:ev sl y=some d):OpR X (.pick c x y) sl ow (fun _=>d) (fun _=>ow):=.of_run fun a w ok kn dst ty pos after g=>by
 subst hb;exact⟨a.eval y,by simp[execOp,(kn c _ hc).bool_inv,asBool],kn y _ hy⟩
theorem run_equalIn_bool {P:Program} (d:Nat) {t:TypeId} (h:P.underlying t=some .bool) (p q:Bool) (w:World):(Op.equalIn (d+1) t (.bool p) (.bool q)).run P w = .ok (p==q) w:=by
 simp[Op.equalIn,underlying,program,Sem.run,h]
theorem qV {P:Program} {t:TypeId} (h:P.underlying t=some .bool) (p q:Bool) (w:World):(Op.equal t (.bool p) (.bool q)).run P w = .ok (p==q) w:=run_equalIn_bool 9999 h p q w
theorem uk {bt yt:TypeId} {x y:Operand} {i:TI} {p q:Bool} (hi:lkT X.tab bt=some i) (hd:i.desc = .bool) (hx:ev sl x=some (.val (.bool p))) (hy:ev sl y=some (.val (.bool q))) :
 OpR X (.binOp .eql bt x y yt) sl ow (fun _=>.val (.bool (p==q))) (fun _=>ow):=.of_run fun a w ok kn dst ty pos after g=>by
 have ex:=(kn x _ hx).val_inv.1;have ey:=(kn y _ hy).val_inv.1;have u1:=(X.tok _ _ hi).desc;rw[hd] at u1;refine⟨.bool (p==q),?_,.val rfl⟩;have hb:(binOp .eql bt (.bool p) (.bool q)).run X.P w = .ok (.bool (p==q)) w:=by
  simp[binOp,qV u1 p q w]
 simp[execOp,eqGuard,ex,ey,hb]
theorem OpR.neBool {bt yt:TypeId} {x y:Operand} {i:TI} {p q:Bool} (hi:lkT X.tab bt=some i) (hd:i.desc = .bool) (hx:ev sl x=some (.val (.bool p))) (hy:ev sl y=some (.val (.bool q))) :
 OpR X (.binOp .neq bt x y yt) sl ow (fun _=>.val (.bool (!(p==q)))) (fun _=>ow):=.of_run fun a w ok kn dst ty pos after g=>by
 have ex:=(kn x _ hx).val_inv.1;have ey:=(kn y _ hy).val_inv.1;have u1:=(X.tok _ _ hi).desc;rw[hd] at u1;refine⟨.bool (!(p==q)),?_,.val rfl⟩;have hb:(binOp .neq bt (.bool p) (.bool q)).run X.P w = .ok (.bool (!(p==q))) w:=by
  simp[binOp,qV u1 p q w]
 simp[execOp,eqGuard,ex,ey,hb]
theorem OpR.indexAddr {xt:TypeId} {x ix:Operand} {i:TI} {e:TypeId} {ie:TI} {l:List Dat} {k:IntKind} {j:Int}
 (hi:lkT X.tab xt=some i) (hd:i.desc = .slice e) (hie:lkT X.tab e=some ie) (hx:ev sl x=some (.sl ie.size l)) (hj:ev sl ix=some (.val (.int k j)))
 (h0:0≤j) (d:Dat) (hl:l[j.toNat]? = some d):OpR X (.indexAddr xt x ix) sl ow (fun _=>.nod d.cells) (fun _=>ow):=.of_run fun a w ok kn dst ty pos after g=>by
 have ex:=(kn x _ hx).sl_inv;have ej:=(kn ix _ hj).val_inv.1;have hlt:j.toNat<l.length:=(List.getElem?_eq_some_iff.1 hl).1;rcases ex with ⟨rfl,_⟩|⟨p,c,ex,hc,es⟩
 ·simp at hl
 ·have u1:=zL (X.tok _ _ hi) w;have u2:=xm (X.tok _ _ hie) w;rw[hd] at u1;have hjl:0≤j∧j<(l.length:Int):=⟨h0,by omega⟩;exact⟨.pointer (some (p.add (j.toNat*ie.size))),by simp[execOp,Instr.indexAt,asIntOf,ex,ej,u1,u2,hjl],.nod (es.get _ hl).2⟩
theorem OpR.indexStr {xt:TypeId} {x ix:Operand} {i:TI} {s:ByteArray} {k:IntKind} {j:Int}
 (hx:ev sl x=some (.val (.string s))) (hj:ev sl ix=some (.val (.int k j))) (hi:lkT X.tab xt=some i) (hd:i.desc = .string)
 (h0:0≤j) (b:UInt8) (hl:s.data.toList[j.toNat]? = some b):OpR X (.index xt x ix) sl ow (fun _=>.val (.int .u8 b.toNat)) (fun _=>ow):=.of_run fun a w ok kn dst ty pos after g=>by
 have ex:=(kn x _ hx).val_inv.1;have ej:=(kn ix _ hj).val_inv.1;have hl':s[j.toNat]? = some b:=by
  obtain⟨h1,h2⟩:=List.getElem?_eq_some_iff.1 hl;have h1':j.toNat<s.size:=by simpa using h1
  rw[getElem?_pos s j.toNat h1'];congr 1
 have u1:=zL (X.tok _ _ hi) w;rw[hd] at u1;exact⟨.int .u8 b.toNat,by simp[execOp,Instr.index,asIntOf,ex,ej,u1,h0,hl'],.val rfl⟩
inductive Bd (sl:List (Nat × Dat)):Option Operand→Nat→Nat→Prop
  | none {m:Nat}:Bd sl none m m
  | some {x:Operand} {k:IntKind} {j:Int} {m:Nat} (h:ev sl x=some (.val (.int k j))) (h0:0≤j):Bd sl (some x) m j.toNat
theorem r6 {a:Act} (kn:Kn sl a w ok) {P:Program} {x:Operand} {k:IntKind} {j:Int} (h:ev sl x=some (.val (.int k j))) (h0:0≤j) {y:Nat} (hy:j.toNat≤y) (code:BoundsCode):(Instr.sliceBound (a.eval x) y code).run P w = .ok j.toNat w:=by
 have e:=(kn x _ h).val_inv.1;have:0≤j∧j≤(y:Int):=⟨h0,by omega⟩;simp[Instr.sliceBound,e,asIntOf,this]
theorem rj {a:Act} (kn:Kn sl a w ok) {P:Program} {lo hi:Option Operand} {i j len cap:Nat} (hlo:Bd sl lo 0 i) (hhi:Bd sl hi len j) (hij:i≤j) (hj:j≤len) (hc:len≤cap) (b:Bool) :
 (Instr.sliceBounds b len cap (lo.map a.eval) (hi.map a.eval) none).run P w = .ok (i,j,cap) w:=by
 cases hlo <;> cases hhi
 ·simp[Instr.sliceBounds]
 ·rename_i x k q h h0;have e:=r6 kn (P:=P) h h0 (y:=cap) (by omega) (if b then .sliceAcap else .sliceAlen);simp[Instr.sliceBounds,e]
 ·rename_i x k q h h0;have e:=r6 kn (P:=P) h h0 (y:=j) (by omega) .sliceB;simp[Instr.sliceBounds,e]
 ·rename_i x k q h h0 x' k' q' h' h0';have e:=r6 kn (P:=P) h h0 (y:=q'.toNat) hij .sliceB;have e':=r6 kn (P:=P) h' h0' (y:=cap) (by omega) (if b then .sliceAcap else .sliceAlen);simp[Instr.sliceBounds,e,e']
theorem OpR.slice {xt:TypeId} {x:Operand} {lo hi:Option Operand} {i:TI} {e:TypeId} {ie:TI} {l:List Dat} (p q:Nat)
 (hi':lkT X.tab xt=some i) (hd:i.desc = .slice e) (hie:lkT X.tab e=some ie) (hx:ev sl x=some (.sl ie.size l)) (hlo:Bd sl lo 0 p) (hhi:Bd sl hi l.length q) (hpq:p≤q) (hq:q≤l.length)
 {l':List Dat} (hl':(l.take q).drop p=l'):OpR X (.slice xt x lo hi none) sl ow (fun _=>.sl ie.size l') (fun _=>ow):=.of_run fun a w ok kn dst ty pos after g=>by
 subst hl';have u1:=zL (X.tok _ _ hi') w;have u2:=xm (X.tok _ _ hie) w;rw[hd] at u1;rcases (kn x _ hx).sl_inv with ⟨rfl,ex⟩|⟨pa,c,ex,hc,es⟩
 ·have hb:=rj (P:=X.P) kn hlo hhi hpq hq (Nat.le_refl _) true;simp at hq;subst hq;have:p=0:=by omega
  subst this;simp only[List.length_nil] at hb;refine⟨.slice none 0 0,?_,by simpa using Enc.slnil⟩;simp[execOp,Instr.sliceAt,Instr.slice,u1,u2,ex,hb]
 ·have hb:=rj (P:=X.P) kn hlo hhi hpq hq hc true;by_cases hcp:c=p
  ·have hq':q=p:=by omega
   subst hcp hq';refine⟨.slice (some pa) 0 0,?_,.sl (by simp) (Nat.le_refl _) (by rw[List.drop_of_length_le (by simp; omega)]; exact .nil)⟩;simp[execOp,Instr.sliceAt,Instr.slice,u1,u2,ex,hb]
  ·refine⟨.slice (some (pa.add (p*ie.size))) (q-p) (c-p),?_,.sl (by simp; omega) (by omega) ((es.take q).drop p)⟩;simp[execOp,Instr.sliceAt,Instr.slice,u1,u2,ex,hb,hcp]
theorem OpR.sliceStr {xt:TypeId} {x:Operand} {lo hi:Option Operand} {i:TI} {s:ByteArray} (p q:Nat)
 (hx:ev sl x=some (.val (.string s))) (hi':lkT X.tab xt=some i) (hd:i.desc = .string) (hlo:Bd sl lo 0 p) (hhi:Bd sl hi s.size q) (hpq:p≤q) (hq:q≤s.size) :
 OpR X (.slice xt x lo hi none) sl ow (fun _=>.val (.string (s.extract p q))) (fun _=>ow):=.of_run fun a w ok kn dst ty pos after g=>by
 have u1:=zL (X.tok _ _ hi') w;rw[hd] at u1;have ex:=(kn x _ hx).val_inv.1;have hb:=rj (P:=X.P) kn hlo hhi hpq hq (Nat.le_refl _) false;exact⟨_,by simp[execOp,Instr.sliceAt,Instr.slice,u1,ex,hb],.val rfl⟩
theorem OpR.concat {t1 t2:TypeId} {x y:Operand} {r s:ByteArray} (hx:ev sl x=some (.val (.string r))) (hy:ev sl y=some (.val (.string s))) (hb:r.size+s.size≤9223372036854775807) :
 OpR X (.binOp .add t1 x y t2) sl ow (fun _=>.val (.string (r++s))) (fun _=>ow):=.of_run fun a w ok kn dst ty pos after g=>by
 have ex:=(kn x _ hx).val_inv.1;have ey:=(kn y _ hy).val_inv.1;have hg:=u0 (P:=X.P) .add t1 x y (.string r) (.string s) w rfl;have h':(r.size:Int)+(s.size:Int)≤9223372036854775807:=by omega
 exact⟨.string (r++s),by simp[execOp,ex,ey,hg,binOp,Op.stringOp,h'],.val rfl⟩
def wt (b:UInt8):Dat:=.val (.int .u8 b.toNat)
theorem bytesEnc {w:World} {e:TypeId} {s:ByteArray} {ok:Nat→Prop} (hok:ok w.heap.size):∀ (l:List UInt8) (off:Nat),(∀ j b,l[j]? = some b→(bytesWorld w e s).cell? ⟨w.heap.size,off+j,none⟩=some (.int .u8 b.toNat))→EncS (bytesWorld w e s) ok 1 ⟨w.heap.size,off,none⟩ (l.map wt):=by
 intro l
 induction l with
 | nil=>intro off _; exact .nil
 | cons b l ih=>
  intro off h;refine .cons rfl (.cons hok rfl (h 0 b rfl) rfl (.val rfl) .nil) ?_;rw[sa];exact ih (off+1) (fun j c hc=>by
   have:=h (j+1) c (by simpa using hc);rwa[show off+1+j=off+(j+1) by omega])
theorem OpR.toBytes {st dt:TypeId} {x:Operand} {i1 i2 ie:TI} {e:TypeId} {s:ByteArray} (hx:ev sl x=some (.val (.string s))) (h1:lkT X.tab st=some i1) (hd1:i1.desc = .string) (h2:lkT X.tab dt=some i2) (hd2:i2.desc = .slice e)
 (h3:lkT X.tab e=some ie) (hd3:ie.desc = .int .u8):OpR X (.convert st dt x) sl ow (fun _=>.sl 1 (s.data.toList.map wt)) (fun _=>ow):=.of_val fun G a w ok hr kn dst ty pos after g=>by
 have ex:=(kn x _ hx).val_inv.1;have u1:=(X.tok _ _ h1).desc;have u2:=(X.tok _ _ h2).desc;have u3:=(X.tok _ _ h3).desc;rw[hd1] at u1; rw[hd2] at u2; rw[hd3] at u3;have hrun:=Go.Lib.run_convert_string_bytes (P:=X.P) w st dt e s u1 u2 u3;have hc:Chg w (bytesWorld w e s) (fun _=>False):=⟨rfl,rfl,rfl,by rw[bytesWorld_size]; omega,fun b hb _=>bytesWorld_at_old w e s b hb⟩;have hst:Stay w (bytesWorld w e s) ok (fun b=>ok b∨b=w.heap.size):=(hr.stay0 hc).trans (sY fun _ h=>.inl h);have henc:Enc (bytesWorld w e s) (fun b=>ok b∨b=w.heap.size) (.sl 1 (s.data.toList.map wt)) (.slice (some ⟨w.heap.size,0,none⟩) s.size (grownCap w s.size 0 e)):=.sl (n:=s.size) (by simp) (grownCap_ge w s.size 0 e) (bytesEnc (.inr rfl) _ 0 (fun j b hj=>by
  have hlt:j<s.size:=by
   have:=(List.getElem?_eq_some_iff.1 hj).1; simpa using this
  rw[Nat.zero_add,bytesWorld_cell w e s j hlt];simp[List.getD_eq_getElem?_getD,hj]))
 refine⟨undef,_,bytesWorld w e s,_,?_,hr.newOk hc (Nat.le_refl _) (by rw[bytesWorld_size]; omega),henc,hst⟩;simp[execOp,ex,hrun]
theorem foldl_push (l:List UInt8):∀ acc:ByteArray,(l.map fun b=>((b.toNat:Nat):Int)).foldl (fun r n=>r.push (UInt8.ofNat n.toNat)) acc=⟨(acc.data.toList++l).toArray⟩:=by
 induction l with
 | nil=>intro acc; simp
 | cons b l ih=>
  intro acc;simp only[List.map_cons,List.foldl_cons,ih];simp[ByteArray.push]
theorem EncS.bytes {a:Addr} {bs:List UInt8} (h:EncS w ok 1 a (bs.map wt)) (j:Nat) (v:Value) (hj:(bs.map fun b=>Value.int .u8 b.toNat)[j]? = some v):w.cell? (a.add j)=some v:=by
 simp only[List.getElem?_map,Option.map_eq_some_iff] at hj;obtain⟨b,hb,rfl⟩:=hj;have:=(h.get j (d:=wt b) (by simp[hb])).2;rw[Nat.mul_one] at this;cases this with
 | cons hb hs hc h1 h hr=>
  cases h with
  | val h=>exact hc
theorem OpR.toStr {st dt:TypeId} {x:Operand} {i1 i2 ie:TI} {e:TypeId} {bs:List UInt8} (hx:ev sl x=some (.sl 1 (bs.map wt))) (h1:lkT X.tab st=some i1) (hd1:i1.desc = .slice e) (h2:lkT X.tab dt=some i2) (hd2:i2.desc = .string)
 (h3:lkT X.tab e=some ie) (hd3:ie.desc = .int .u8):OpR X (.convert st dt x) sl ow (fun _=>.val (.string ⟨bs.toArray⟩)) (fun _=>ow):=.of_run fun a w ok kn dst ty pos after g=>by
 have u1:=zL (X.tok _ _ h1) w;have u2:=zL (X.tok _ _ h2) w;have u3:=zL (X.tok _ _ h3) w;rw[hd1] at u1; rw[hd2] at u2; rw[hd3] at u3;refine⟨.string ⟨bs.toArray⟩,?_,.val rfl⟩;rcases (kn x _ hx).sl_inv with ⟨h0,ex⟩|⟨pa,c,ex,hc,es⟩
 ·have:bs=[]:=by simpa using h0
  subst this;simp[execOp,convert,u1,u2,u3,ex,Conv.bytesToString];rfl
 ·have hl:=sc X.P (w:=w) (n:=bs.length) (a:=pa) (vs:=bs.map fun b=>Value.int .u8 b.toNat) (by simp) es.bytes;have hrun:=run_bytesToString (P:=X.P) w pa bs.length c (bs.map fun b=>((b.toNat:Nat):Int)) (by rw[hl]; simp);rw[foldl_push] at hrun;simp at ex;simp[execOp,convert,u1,u2,u3,ex,hrun]
def buildK (tt:TypeId→Option TI) (fields:Array Field) (S:List (Nat × Dat)):List (Nat × Operand)→List Dat→Option (List Dat)
 | [],cs=>some cs
 | (i,x)::r,cs=>match fields[i]? with
  | some f=>match tt f.type,ev S x with
   | some ti,some d=>match live d&&Nat.beq d.cells.length ti.size with
    | true=>match uQ f.offset d.cells cs some with
     | some cs'=>buildK tt fields S r cs'
     | none=>none
    | false=>none
   | _,_=>none
  | none=>none
theorem foldl_set:∀ (us:List Value) (cs:Array Value) (off i:Nat),off+i+us.length≤cs.size →
 ((us.zipIdx i).foldl (fun cs (p:Value × Nat)=>cs.setIfInBounds (off+p.2) p.1) cs).toList=cs.toList.take (off+i)++us++cs.toList.drop (off+i+us.length)
 | [],cs,off,i,h=>by simp
 | u::us,cs,off,i,h=>by
  have:=foldl_set us (cs.setIfInBounds (off+i) u) off (i+1) (by simp at h ⊢; omega);simp only[List.zipIdx_cons,List.foldl_cons];rw[this];have hlt:off+i<cs.toList.length:=by simp at h ⊢; omega
  simp only[Array.toList_setIfInBounds];rw[List.take_set,List.drop_set];simp only[List.length_cons];rw[if_pos (by omega),show off+(i+1)=off+i+1 by omega,List.take_succ_eq_append_getElem hlt];rw[List.set_append_right _ _ (by simp; omega)];simp[Nat.min_eq_left (Nat.le_of_lt (by simpa using hlt))];congr 1; omega
theorem buildK_run {P:Prg} {fields:Array Field} {a:Act} (kn:Kn sl a w ok) (place:Nat→Option (Nat × Nat)) (hp:∀ (i:Nat) (f:Field) (ti:TI),fields[i]? = some f→lkT P.tab f.type=some ti→place i=some (f.offset,ti.size)) :
 ∀ {parts:List (Nat × Operand)} {cs cs':List Dat} {vs:List Value},buildK (lkT P.tab) fields sl parts cs=some cs'→EncL w ok cs vs→(∀ v∈vs,one v=true) →
  ∃ vs':List Value,Instr.fill place vs.toArray (parts.map fun (i,x)=>(i,a.eval x))=some vs'.toArray∧EncL w ok cs' vs'∧∀ v∈vs',one v=true
 | [],cs,cs',vs,h,he,h1=>by
  simp only[buildK,Option.some.injEq] at h; subst h;exact⟨vs,by simp[Instr.fill],he,h1⟩
 | (i,x)::r,cs,cs',vs,h,he,h1=>by
  simp only[buildK] at h;split at h
  ·rename_i f hf;split at h
   ·rename_i ti d hti hd;split at h
    ·rename_i hb;simp only[Bool.and_eq_true] at hb;split at h
     ·rename_i cs1 hs;obtain⟨us,e1,e2,e3⟩:=(kn x d hd).cells hb.1;have hs':=ra _ _ _ _ _ hs;have hs2:=Option.some.inj hs'.2;have hl:=he.length;have hl2:=e2.length;have hsz:us.length=ti.size:=hl2▸Nat.eq_of_beq_eq_true hb.2;have henc:EncL w ok cs1 (vs.take f.offset++us++vs.drop (f.offset+us.length)):=by
       rw[← hs2,hl2];exact ((he.take _).append e2).append (he.drop _)
      have h1':∀ v∈vs.take f.offset++us++vs.drop (f.offset+us.length),one v=true:=fun v hv=>by
       simp only[List.append_assoc,List.mem_append] at hv;rcases hv with hv|hv|hv
       ·exact h1 v (List.mem_of_mem_take hv)
       ·exact e3 v hv
       ·exact h1 v (List.mem_of_mem_drop hv)
      obtain⟨vs',g1,g2,g3⟩:=buildK_run kn place hp h henc h1';refine⟨vs',?_,g2,g3⟩;have hfold:(us.toArray.zipIdx.foldl (fun cs (p:Value × Nat)=>cs.setIfInBounds (f.offset+p.2) p.1) vs.toArray)=(vs.take f.offset++us++vs.drop (f.offset+us.length)).toArray:=by
       apply Array.toList_inj.1;have:=foldl_set us vs.toArray f.offset 0 (by simp; omega);simpa using this
      show Instr.fill place vs.toArray ((i,a.eval x)::r.map fun (i,x)=>(i,a.eval x))=some vs'.toArray;unfold Instr.fill;rw[hp i f ti hf hti];dsimp only;rw[e1,if_neg (by simp; omega)];exact (congrArg (fun z=>Instr.fill place z (r.map fun (i,x)=>(i,a.eval x))) hfold).trans g1
     ·cases h
    ·cases h
   ·cases h
  ·cases h
theorem mapM_places {P:Prg} (w:World):∀ (fs:List Field),(∀ f∈fs,∃ ti,lkT P.tab f.type=some ti)→∃ ps:List (Nat × Nat),(fs.mapM (fun f:Field=>Prod.mk f.offset <$> sizeOf f.type)).run P.P w = .ok ps w∧∀ (i:Nat) (f:Field) (ti:TI),fs[i]? = some f→lkT P.tab f.type=some ti→ps[i]? = some (f.offset,ti.size)
 | [],_=>⟨[],by simp,by simp⟩
 | f::fs,h=>by
  obtain⟨ti,hti⟩:=h f List.mem_cons_self;obtain⟨ps,h1,h2⟩:=mapM_places w fs (fun g hg=>h g (List.mem_cons_of_mem _ hg));have u:=xm (P.tok _ _ hti) w;refine⟨(f.offset,ti.size)::ps,by simp[List.mapM_cons,u,h1],?_⟩;intro i g tj hg htj;cases i with
  | zero=>
   simp at hg; subst hg;rw[hti] at htj;obtain rfl:=Option.some.inj htj;rfl
  | succ i=>exact h2 i g tj (by simpa using hg) htj
def fieldsOk (tt:TypeId→Option TI):List Field→Bool
 | []=>true
 | f::r=>match tt f.type with|some _=>fieldsOk tt r|none=>false
theorem fieldsOk_mem {P:Prg}:∀ {fs:List Field},fieldsOk (lkT P.tab) fs=true→∀ f∈fs,∃ ti,lkT P.tab f.type=some ti
 | f::r,h,g,hg=>by
  simp only[fieldsOk] at h;split at h
  ·rename_i ti hti;rcases List.mem_cons.1 hg with rfl|hg
   ·exact⟨ti,hti⟩
   ·exact fieldsOk_mem h g hg
  ·cases h
theorem OpR.build {st:TypeId} {parts:Array (Nat × Operand)} {i:TI} {fields:Array Field} {zs cs:List Dat} (hi:lkT X.tab st=some i) (hd:i.desc = .struct fields) (hok:fieldsOk (lkT X.tab) fields.toList=true) (hz:po i.zero.cells.toList=some zs)
 (hb:buildK (lkT X.tab) fields sl parts.toList zs=some cs):OpR X (.build st parts) sl ow (fun _=>.agg cs) (fun _=>ow):=.of_run fun a w ok kn dst ty pos after g=>by
 have u1:=zL (X.tok _ _ hi) w;have u2:=tG (X.tok _ _ hi) w;rw[hd] at u1;have hz':=r9 w ok hz;obtain⟨ps,h1,h2⟩:=mapM_places (P:=X) w fields.toList (fieldsOk_mem hok);obtain⟨vs',h3,h4,h5⟩:=buildK_run (P:=X) kn (fun i=>ps[i]?) (fun i f ti hf hti=>h2 i f ti (by simpa using hf) hti) hb hz'.1 hz'.2;refine⟨.agg vs'.toArray,?_,.agg h5 h4⟩;have hm:(fields.mapM (fun f:Field=>Prod.mk f.offset <$> sizeOf f.type)).run X.P w = .ok ps.toArray w:=by
  obtain⟨fs⟩:=fields;simp only at h1;simp[h1]
 have e0:i.zero.cells=i.zero.cells.toList.toArray:=by simp
 rw[← e0] at h3;have h3':Instr.fill (fun x=>ps[x]?) i.zero.cells (List.map (fun x=>(x.fst,a.eval x.snd)) parts.toList)=some vs'.toArray:=h3;simp only[execOp,Instr.build];simp at hm ⊢;simp[u1,u2,hm,h3']
def partsK (sz:Nat) (S:List (Nat × Dat)):Nat→List (Nat × Operand)→Option (List Dat)
 | _,[]=>some []
 | j,(i,x)::r=>match ev S x with
  | some d=>match Nat.beq i j&&(live d&&Nat.beq d.cells.length sz) with
   | true=>match partsK sz S (j+1) r with
    | some ds=>some (d::ds)
    | none=>none
   | false=>none
  | none=>none
theorem partsK_run {a:Act} (kn:Kn sl a w ok) {sz:Nat}:∀ {parts:List (Nat × Operand)} {j:Nat} {ds:List Dat} (cells:List Value),partsK sz sl j parts=some ds→cells.length=(j+parts.length)*sz →
 ∃ vs:List Value,Instr.fill (fun i=>some (i*sz,sz)) cells.toArray (parts.map fun (i,x)=>(i,a.eval x))=some (cells.take (j*sz)++vs).toArray∧EncL w ok (ds.flatMap Dat.cells) vs∧(∀ v∈vs,one v=true)∧(∀ d∈ds,d.cells.length=sz)∧ds.length=parts.length
 | [],j,ds,cells,h,hc=>by
  simp only[partsK,Option.some.injEq] at h; subst h;exact⟨[],by simp[Instr.fill]; exact (List.take_of_length_le (by simp at hc; omega)).symm,.nil,by simp,by simp,rfl⟩
 | (i,x)::r,j,ds,cells,h,hc=>by
  simp only[partsK] at h;split at h
  ·rename_i d hd;split at h
   ·rename_i hb;simp only[Bool.and_eq_true] at hb;obtain⟨h1,h3,h4⟩:=hb;have hij:=Nat.eq_of_beq_eq_true h1;subst hij;split at h
    ·rename_i ds' hds;obtain rfl:=Option.some.inj h;obtain⟨us,e1,e2,e3⟩:=(kn x d hd).cells h3;have hsz:us.length=sz:=e2.length▸Nat.eq_of_beq_eq_true h4;have hlen:cells.length=i*sz+(sz+r.length*sz):=by rw[hc]; simp only[List.length_cons]; rw[Nat.add_mul,Nat.add_mul]; omega
     have hfold:(us.toArray.zipIdx.foldl (fun cs (p:Value × Nat)=>cs.setIfInBounds (i*sz+p.2) p.1) cells.toArray)=(cells.take (i*sz)++us++cells.drop (i*sz+us.length)).toArray:=by
      apply Array.toList_inj.1;have:=foldl_set us cells.toArray (i*sz) 0 (by simp; omega);simpa using this
     obtain⟨vs,g1,g2,g3,g4,g5⟩:=partsK_run kn (cells.take (i*sz)++us++cells.drop (i*sz+us.length)) hds (by simp only[List.length_append,List.length_take,List.length_drop]; rw[Nat.add_mul,Nat.add_mul]; omega);have htake:(cells.take (i*sz)++us++cells.drop (i*sz+us.length)).take ((i+1)*sz)=cells.take (i*sz)++us:=by
      rw[List.take_append_of_le_length (by simp; rw[Nat.add_mul]; omega),List.take_of_length_le (by simp; rw[Nat.add_mul]; omega)]
     rw[htake] at g1;refine⟨us++vs,?_,by simpa using e2.append g2,fun v hv=>?_,fun e he=>?_,by simp[g5]⟩
     ·show Instr.fill _ cells.toArray ((i,a.eval x)::r.map fun (i,x)=>(i,a.eval x))=_;unfold Instr.fill;dsimp only;rw[e1,if_neg (by simp; omega)];rw[← List.append_assoc];exact (congrArg (fun z=>Instr.fill _ z (r.map fun (i,x)=>(i,a.eval x))) hfold).trans g1
     ·rcases List.mem_append.1 hv with hv|hv
      ·exact e3 v hv
      ·exact g3 v hv
     ·rcases List.mem_cons.1 he with rfl|he
      ·exact Nat.eq_of_beq_eq_true h4
      ·exact g4 e he
    ·cases h
   ·cases h
  ·cases h
theorem lit_run {st:TypeId} {len sz:Nat} {parts:Array (Nat × Operand)} {i ie:TI} {e:TypeId} {ds:List Dat} (hi:lkT X.tab st=some i) (hd:i.desc = .slice e) (hie:lkT X.tab e=some ie) (hsz:ie.size=sz) (hlen':Nat.beq parts.toList.length len=true) (hsm:Nat.ble (len*sz) 16777216=true)
 (hp:partsK sz sl 0 parts.toList=some ds) {a:Act} (kn:Kn sl a w ok) (dst:Option Tmp) (ty:TypeId) (pos:String) (after:Array Edge) (g:Option (Nat × Bool)) :
 ∃ vs:List Value,(execOp a.eval { dst:=dst,op:=.buildSlice st len parts,type:=ty,pos:=pos,after:=after,guard:=g }).run X.P w = .ok (.value (.slice (some ⟨w.heap.size,0,none⟩) len len)) (w.alloc (.cells vs.toArray e (0,0))) ∧
  EncL w ok (ds.flatMap Dat.cells) vs∧(∀ v∈vs,one v=true)∧(∀ d∈ds,d.cells.length=sz)∧ds.length=len:=by
 have hlen:=Nat.eq_of_beq_eq_true hlen';subst hsz;have u1:=zL (X.tok _ _ hi) w;have u2:=xm (X.tok _ _ hie) w;have u3:=tG (X.tok _ _ hie) w;rw[hd] at u1;have hsm':¬ (len*ie.size>2 ^ 24):=by have:=Nat.le_of_ble_eq_true hsm; omega
 let zs:Array Value:=(Array.range (len*ie.size)).map fun q=>ie.zero.cells[q % ie.zero.cells.size]!
 obtain⟨vs,g1,g2,g3,g4,g5⟩:=partsK_run kn zs.toList hp (by simp[zs,hlen]);simp only[Nat.zero_mul,List.take_zero,List.nil_append] at g1;refine⟨vs,?_,g2,g3,g4,by rw[g5,hlen]⟩;have g1':Instr.fill (fun q=>some (q*ie.size,ie.size)) zs (parts.toList.map fun x=>(x.1,a.eval x.2))=some vs.toArray:=by simpa using g1
 by_cases h0:len*ie.size=0
 ·have hz0:zs = #[]:=by
   apply Array.toList_inj.1;apply List.length_eq_zero_iff.1;simp[zs,h0]
  rw[hz0] at g1';simp only[execOp,Instr.buildSlice];simp[u1,u2,h0,newRow,newObj];have e0:(Array.map (fun _:Nat=>(default:Value)) (Array.range 0)) = #[]:=by simp
  rw[e0,g1'];rfl
 ·simp only[execOp,Instr.buildSlice];simp[u1,u2,u3,hsm',h0,newRow,newObj];simp only[zs] at g1';rw[g1'];rfl
theorem yC {st:TypeId} {len sz:Nat} {parts:Array (Nat × Operand)} {i ie:TI} {e:TypeId} {ds:List Dat} (hi:lkT X.tab st=some i) (hd:i.desc = .slice e) (hie:lkT X.tab e=some ie) (hsz:ie.size=sz) (hlen':Nat.beq parts.toList.length len=true) (hsm:Nat.ble (len*sz) 16777216=true)
 (hp:partsK sz sl 0 parts.toList=some ds):OpR X (.buildSlice st len parts) sl ow (fun _=>.sl sz ds) (fun _=>ow):=.of_val fun G a w ok hr kn dst ty pos after g=>by
 obtain⟨vs,h1,g2,g3,g4,g5⟩:=lit_run hi hd hie hsz hlen' hsm hp kn dst ty pos after g;have hc:=Chg.alloc w (.cells vs.toArray e (0,0)) (fun _=>False);have hst:Stay w (w.alloc (.cells vs.toArray e (0,0))) ok (fun m=>ok m∨m=w.heap.size):=(hr.stay0 hc).trans (sY fun _ h=>.inl h);have hC:=EncL.toC (vH w _) (.inr rfl) 0 (g2.mono hst) g3 (fun j v hv=>by simpa using hv);exact⟨undef,_,_,_,h1,hr.newOk hc (Nat.le_refl _) (by rw[uj]; omega),.sl g5 (Nat.le_refl _) (hC.flat g4),hst⟩
theorem sj {st:TypeId} {len sz:Nat} {parts:Array (Nat × Operand)} {i ie:TI} {e:TypeId} {ds:List Dat} (hi:lkT X.tab st=some i) (hd:i.desc = .slice e) (hie:lkT X.tab e=some ie) (hsz:ie.size=sz) (hlen':Nat.beq parts.toList.length len=true) (hsm:Nat.ble (len*sz) 16777216=true) (hlm:Nat.ble len 16777216=true)
 (hp:partsK sz sl 0 parts.toList=some ds) {ow':Value→List Own} (ho:∀ x,appK ow (.row x ds sz e) some=some (ow' x)):OpR X (.buildSlice st len parts) sl ow (fun x=>.val x) ow':=.of_val fun G a w ok hr kn dst ty pos after g=>by
 obtain⟨vs,h1,g2,g3,g4,g5⟩:=lit_run hi hd hie hsz hlen' hsm hp kn dst ty pos after g;have hc:=Chg.alloc w (.cells vs.toArray e (0,0)) (fun _=>False);have hst:=hr.stay0 hc;have hle:len≤maxLen:=by have:=Nat.le_of_ble_eq_true hlm; simp only[maxLen]; omega
 refine⟨.slice (some ⟨w.heap.size,0,none⟩) len len,_,_,ok,h1,?_,.val rfl,hst⟩;have:=Option.some.inj (rx _ _ _ _ (ho (.slice (some ⟨w.heap.size,0,none⟩) len len)));rw[← this];refine hr.newOwn' hc (b:=w.heap.size) (.row (us:=[]) g5 (Nat.le_refl _) hle (by rw[List.append_nil]; exact vH w _) ?_ (g2.mono hst) g3 g4) (fun m hm=>(Option.some.inj hm).symm) (Nat.le_refl _) (by rw[uj]; omega);rw[List.append_nil,← g2.length,uU g4,g5]
theorem OwnOk.row_inv {v:Value} {l:List Dat} {sz:Nat} {e:TypeId} (h:OwnOk w ok (.row v l sz e)):(v = .slice none 0 0∧l=[]) ∨
 ∃ (b c:Nat) (vs us:List Value),v = .slice (some ⟨b,0,none⟩) l.length c∧l.length≤c∧c≤maxLen∧w.heap[b]? = some (.cells (vs++us).toArray e (0,0))∧c*sz=(vs++us).length∧EncL w ok (l.flatMap Dat.cells) vs∧(∀ v∈vs,one v=true)∧∀ d∈l,d.cells.length=sz:=by
 cases h with
 | nil=>exact .inl ⟨rfl,rfl⟩
 | row hn hc hm hb hz h h1 hs=>subst hn; exact .inr ⟨_,_,_,_,rfl,hc,hm,hb,hz,h,h1,hs⟩
theorem OpR.rowLen {x:Operand} {t1:TypeId} {i:TI} {e0:TypeId} {v:Value} {l:List Dat} {sz:Nat} {e:TypeId} (k:Nat) (hx:ev sl x=some (.val v)) (hb:ow[k]? = some (.row v l sz e)) (hi:lkT X.tab t1=some i) (hd:i.desc = .slice e0) :
 OpR X (.call { callee:=.builtin .len,args:=#[x],argTypes:=#[t1] }) sl ow (fun _=>.val (.int .i64 l.length)) (fun _=>ow):=.of_val fun G a w ok hr kn dst ty pos after g=>by
 have e1:=(kn x _ hx).val_inv.1;have u1:=zL (X.tok _ _ hi) w;rw[hd] at u1;refine⟨undef,.int .i64 l.length,w,ok,?_,hr,.val rfl,Stay.refl _ _⟩;rcases (hr.own k _ hb).row_inv with ⟨rfl,rfl⟩|⟨b,c,vs,us,rfl,_⟩ <;> simp[execOp,resolve,invoke,builtin,Builtin.len_,u1,e1,goInt]
theorem OpR.rowIndex {xt:TypeId} {x ix:Operand} {i:TI} {e0:TypeId} {ie:TI} {v:Value} {l:List Dat} {sz:Nat} {e:TypeId} {ki:IntKind} {j:Int} (k:Nat) (hx:ev sl x=some (.val v)) (hj:ev sl ix=some (.val (.int ki j))) (hb:ow[k]? = some (.row v l sz e))
 (hi:lkT X.tab xt=some i) (hd:i.desc = .slice e0) (hie:lkT X.tab e0=some ie) (hsz:ie.size=sz) (h0:0≤j) (h1:j.toNat<l.length) :
 OpR X (.indexAddr xt x ix) sl ow (fun _=>.val (.pointer (some ⟨blk v,j.toNat*sz,none⟩))) (fun _=>ow):=.of_val fun G a w ok hr kn dst ty pos after g=>by
 have e1:=(kn x _ hx).val_inv.1;have ej:=(kn ix _ hj).val_inv.1;have u1:=zL (X.tok _ _ hi) w;have u2:=xm (X.tok _ _ hie) w;rw[hd] at u1;rcases (hr.own k _ hb).row_inv with ⟨rfl,rfl⟩|⟨b,c,vs,us,rfl,_⟩
 ·simp at h1
 ·have hjl:0≤j∧j<(l.length:Int):=⟨h0,by omega⟩;refine⟨undef,.pointer (some ⟨b,j.toNat*sz,none⟩),w,ok,?_,hr,.val rfl,Stay.refl _ _⟩;simp[execOp,Instr.indexAt,asIntOf,e1,ej,u1,u2,hjl,sa,hsz]
theorem flat_at {sz:Nat}:∀ {l:List Dat} {j:Nat} {d:Dat},(∀ d∈l,d.cells.length=sz)→l[j]? = some d→∃ r,(l.flatMap Dat.cells).drop (j*sz)=d.cells++r
 | d::l,0,d',h,hj=>by simp at hj; subst hj; exact⟨l.flatMap Dat.cells,by simp⟩
 | d::l,j+1,d',h,hj=>by
  obtain⟨r,hr⟩:=flat_at (l:=l) (j:=j) (fun e he=>h e (List.mem_cons_of_mem _ he)) (by simpa using hj);refine⟨r,?_⟩;rw[List.flatMap_cons,show (j+1)*sz=d.cells.length+j*sz by rw[h d List.mem_cons_self,Nat.add_mul]; omega,List.drop_length_add_append];exact hr
theorem OpR.rowLoad {e1:TypeId} {x:Operand} {i:TI} {v:Value} {l:List Dat} {sz j f:Nat} {e:TypeId} {d1:Dat} (k:Nat) (hx:ev sl x=some (.val (.pointer (some ⟨blk v,j*sz+f,none⟩)))) (hi:lkT X.tab e1=some i) (hb:ow[k]? = some (.row v l sz e))
 (hl:l[j]? = some d1) (hd:dropK f d1.cells (fun r=>partD i r)=some d):OpR X (.load e1 x) sl ow (fun _=>d) (fun _=>ow):=.of_val fun G a w ok hr kn dst ty pos after g=>by
 have ex:=(kn x _ hx).val_inv.1;rcases (hr.own k _ hb).row_inv with ⟨rfl,rfl⟩|⟨b,c,vs,us,rfl,hc,hm,hh,hz,he,h1,hs⟩
 ·simp at hl
 ·obtain⟨r,hr'⟩:=flat_at hs hl;have h':=rA _ _ _ _ hd;have he2:=(he.drop (j*sz)).take d1.cells.length;rw[hr',List.take_left] at he2;obtain⟨u,g1,g2⟩:=part_load (X:=X) hi (off:=j*sz+f) hh (he2.drop f) (fun v hv=>h1 v (List.mem_of_mem_drop (List.mem_of_mem_take (List.mem_of_mem_drop hv)))) (fun m v hv=>by
   rw[List.getElem?_drop,List.getElem?_take] at hv;split at hv
   ·rw[List.getElem?_drop] at hv;have hlt:=(List.getElem?_eq_some_iff.1 hv).1;simp only[List.getElem?_toArray];rw[Nat.add_assoc,List.getElem?_append_left hlt]; exact hv
   ·cases hv) h'.2
  have ex':a.eval x = .pointer (some ⟨b,j*sz+f,none⟩):=ex;exact⟨undef,u,w,ok,by simp[execOp,Instr.loadAt,ex',Instr.sureAddr,g1],hr,g2,Stay.refl _ _⟩
theorem OpR.rowLoad0 {e1:TypeId} {x:Operand} {i:TI} {v:Value} {l:List Dat} {sz j:Nat} {e:TypeId} {d1:Dat} (k:Nat) (hx:ev sl x=some (.val (.pointer (some ⟨blk v,j*sz,none⟩)))) (hi:lkT X.tab e1=some i) (hb:ow[k]? = some (.row v l sz e))
 (hl:l[j]? = some d1) (hd:partD i d1.cells=some d):OpR X (.load e1 x) sl ow (fun _=>d) (fun _=>ow):=OpR.rowLoad (f:=0) k hx hi hb hl hd
theorem OpR.rowStore {e1:TypeId} {x y:Operand} {i:TI} {v:Value} {l l':List Dat} {sz j f:Nat} {e:TypeId} {d1 d2:Dat} {cs:List Dat} (k:Nat) (hx:ev sl x=some (.val (.pointer (some ⟨blk v,j*sz+f,none⟩)))) (hy:ev sl y=some d) (hlv:live d=true) (hi:lkT X.tab e1=some i) (hb:ow[k]? = some (.row v l sz e))
 (hz:Nat.beq d.cells.length i.size=true) (hl:l[j]? = some d1) (hd:uQ f d.cells d1.cells some=some cs) (hd2:d2.cells=cs) (hl':l.set j d2=l') {ow':List Own} (ho:setK k (.row v l' sz e) ow some=some ow') :
 OpR X (.store e1 x y) sl ow (fun _=>.dead) (fun _=>ow'):=.of_skip fun G a w ok hr kn dst ty pos after g=>by
 obtain rfl:=Option.some.inj (tS _ _ _ _ _ ho);subst hl';have ex:=(kn x _ hx).val_inv.1;obtain⟨ns,f1,f2,f3⟩:=(kn y _ hy).cells hlv;have hsp:=ra _ _ _ _ _ hd;have hcs:=Option.some.inj hsp.2;have u2:=xm (X.tok _ _ hi) w;have hl2:=f2.length;have hz':ns.length=i.size:=hl2▸Nat.eq_of_beq_eq_true hz;have hjl:j<l.length:=(List.getElem?_eq_some_iff.1 hl).1;rcases (hr.own k _ hb).row_inv with ⟨rfl,rfl⟩|⟨b,c,vs,us,rfl,hc,hm,hh,hcz,he,h1,hs⟩
 ·simp at hl
 ·have hd1:d1.cells.length=sz:=hs d1 (List.mem_of_getElem? hl);have hvl:vs.length=l.length*sz:=by rw[← he.length,uU hs]
  have hfs:f+ns.length≤sz:=by have:=hsp.1; omega
  have hbig:j*sz+sz≤l.length*sz:=by rw[← Nat.succ_mul]; exact Nat.mul_le_mul_right _ hjl
  obtain⟨w',cells',g1,g2,g3,g4⟩:=tF (P:=X.P) ns w (vs++us).toArray (j*sz+f) 0 hh f3 (by simp only[List.size_toArray,List.length_append]; omega);have hw':cells'.toList=(vs.take (j*sz+f)++ns++vs.drop (j*sz+f+ns.length))++us:=by
   rw[g4]; simp only[Nat.add_zero];rw[List.take_append_of_le_length (by omega),List.drop_append_of_le_length (by omega)];simp only[List.append_assoc]
  obtain⟨cells'⟩:=cells';simp only at hw';subst hw';have g2':Chg w w' (fun m=>(Own.row (.slice (some ⟨b,0,none⟩) l.length c) l sz e).block=some m):=g2.imp fun m h=>h▸rfl;have hst:=hr.updStay hb g2';have ex':a.eval x = .pointer (some ⟨b,j*sz+f,none⟩):=ex;have hd2l:d2.cells.length=sz:=by rw[hd2,← hcs,← hd1]; simp only[List.length_append,List.length_take,List.length_drop]; have:=hsp.1; omega
  have hflat:(l.set j d2).flatMap Dat.cells=(l.flatMap Dat.cells).take (j*sz+f)++d.cells++(l.flatMap Dat.cells).drop (j*sz+f+d.cells.length):=by
   have hsplit:l=l.take j++d1::l.drop (j+1):=by
    have hje:l[j]=d1:=by rw[List.getElem?_eq_getElem hjl] at hl; exact Option.some.inj hl
    rw[← hje,← List.drop_eq_getElem_cons hjl,List.take_append_drop]
   have hlen1:((l.take j).flatMap Dat.cells).length=j*sz:=by
    rw[uU (fun e he=>hs e (List.mem_of_mem_take he)),List.length_take,Nat.min_eq_left (by omega)]
   have hset:l.set j d2=l.take j++d2::l.drop (j+1):=List.set_eq_take_append_cons_drop .. |>.trans (if_pos hjl);have hfl:l.flatMap Dat.cells=(l.take j).flatMap Dat.cells++(d1.cells++(l.drop (j+1)).flatMap Dat.cells):=by
    conv=>lhs; rw[hsplit]
    simp
   rw[hset,hfl];simp only[List.flatMap_append,List.flatMap_cons];rw[hd2,← hcs];generalize (l.take j).flatMap Dat.cells=A at *;generalize (l.drop (j+1)).flatMap Dat.cells=B at *;have t1:List.take (j*sz+f) (A++(d1.cells++B))=A++d1.cells.take f:=by
    rw[← hlen1,List.take_length_add_append,List.take_append_of_le_length (by omega)]
   have t2:List.drop (j*sz+f+d.cells.length) (A++(d1.cells++B))=d1.cells.drop (f+d.cells.length)++B:=by
    rw[Nat.add_assoc,← hlen1,List.drop_length_add_append,List.drop_append_of_le_length (by omega)]
   rw[t1,t2];simp
  have henc:EncL w' ok ((l.set j d2).flatMap Dat.cells) (vs.take (j*sz+f)++ns++vs.drop (j*sz+f+ns.length)):=by
   rw[hflat,hl2];exact (((he.take _).append f2).append (he.drop _)).mono hst
  refine⟨w',ok,?_,hr.upd hb g2' (.row (us:=us) (by rw[List.length_set]) hc hm (by rw[g3]) ?_ henc ?_ ?_) (fun m hm=>.inl hm),hst⟩
  ·simp[execOp,Instr.storeAt,ex',Instr.sureAddr,storeVar,u2,f1,hz',g1]
  ·rw[hcz]; simp only[List.length_append,List.length_take,List.length_drop]; omega
  ·intro u hu;simp only[List.append_assoc,List.mem_append] at hu;rcases hu with hu|hu|hu
   ·exact h1 u (List.mem_of_mem_take hu)
   ·exact f3 u hu
   ·exact h1 u (List.mem_of_mem_drop hu)
  ·intro q hq;rcases List.mem_or_eq_of_mem_set hq with hq|rfl
   ·exact hs q hq
   ·exact hd2l
theorem OpR.rowStore0 {e1:TypeId} {x y:Operand} {i:TI} {v:Value} {l l':List Dat} {sz j:Nat} {e:TypeId} {d1 d2:Dat} {cs:List Dat} (k:Nat) (hx:ev sl x=some (.val (.pointer (some ⟨blk v,j*sz,none⟩)))) (hy:ev sl y=some d) (hlv:live d=true) (hi:lkT X.tab e1=some i) (hb:ow[k]? = some (.row v l sz e))
 (hz:Nat.beq d.cells.length i.size=true) (hl:l[j]? = some d1) (hd:uQ 0 d.cells d1.cells some=some cs) (hd2:d2.cells=cs) (hl':l.set j d2=l') {ow':List Own} (ho:setK k (.row v l' sz e) ow some=some ow') :
 OpR X (.store e1 x y) sl ow (fun _=>.dead) (fun _=>ow'):=OpR.rowStore (f:=0) k hx hy hlv hi hb hz hl hd hd2 hl' ho
def vw (v:Value) (lo hi sz:Nat):Value:=match v with
| .slice (some a) _ c=>if c=lo then .slice (some a) 0 0 else .slice (some (a.add (lo*sz))) (hi-lo) (c-lo)
| .slice none _ _=>.slice none 0 0
| v=>v
inductive Src (sl:List (Nat × Dat)) (ow:List Own):Operand→Nat→List Dat→Prop
  | sl {x:Operand} {sz:Nat} {l:List Dat} (h:ev sl x=some (.sl sz l)):Src sl ow x sz l
  | row {x:Operand} {sz:Nat} {l:List Dat} {v:Value} {e:TypeId} (k:Nat) (h:ev sl x=some (.val v)) (hb:ow[k]? = some (.row v l sz e)):Src sl ow x sz l
  | view {x:Operand} {sz:Nat} {l l':List Dat} {v:Value} {e:TypeId} (k lo hi:Nat) (h:ev sl x=some (.val (vw v lo hi sz))) (hb:ow[k]? = some (.row v l sz e)) (hc:lo≤hi∧hi≤l.length) (hl:(l.take hi).drop lo=l'):Src sl ow x sz l'
theorem flat_take {sz:Nat} {l:List Dat} (h:∀ d∈l,d.cells.length=sz) (n:Nat):(l.take n).flatMap Dat.cells=(l.flatMap Dat.cells).take (n*sz):=by
 induction l generalizing n with
 | nil=>simp
 | cons d l ih=>
  have hd:=h d List.mem_cons_self;cases n with
  | zero=>simp
  | succ n=>
   rw[List.take_succ_cons,List.flatMap_cons,List.flatMap_cons,ih (fun x hx=>h x (List.mem_cons_of_mem _ hx)),List.take_append,hd,Nat.add_mul,Nat.one_mul,List.take_of_length_le (l:=d.cells) (by rw[hd]; omega),Nat.add_sub_cancel]
theorem flat_drop {sz:Nat} {l:List Dat} (h:∀ d∈l,d.cells.length=sz) (n:Nat):(l.drop n).flatMap Dat.cells=(l.flatMap Dat.cells).drop (n*sz):=by
 induction l generalizing n with
 | nil=>simp
 | cons d l ih=>
  have hd:=h d List.mem_cons_self;cases n with
  | zero=>simp
  | succ n=>
   rw[List.drop_succ_cons,List.flatMap_cons,ih (fun x hx=>h x (List.mem_cons_of_mem _ hx)),List.drop_append,hd,Nat.add_mul,Nat.one_mul,List.drop_eq_nil_of_le (as:=d.cells) (by rw[hd]; omega),List.nil_append,Nat.add_sub_cancel]
theorem Src.run {G:Gh} {a:Act} (hr:RepB G ow w ok) (kn:Kn sl a w ok) {x:Operand} {sz:Nat} {ds:List Dat} (h:Src sl ow x sz ds) :
 (ds=[]∧∃ A c,a.eval x = .slice A 0 c)∨∃ pa c news,a.eval x = .slice (some pa) ds.length c∧EncL w ok (ds.flatMap Dat.cells) news∧news.length=ds.length*sz∧(∀ (j:Nat) u,news[j]? = some u→w.cell? (pa.add j)=some u)∧(∀ v∈news,one v=true)∧∀ d∈ds,d.cells.length=sz:=by
 have atRow:∀ {b:Nat} {vs us:List Value} {e:TypeId},w.heap[b]? = some (.cells (vs++us).toArray e (0,0))→∀ (j:Nat) u,vs[j]? = some u→w.cell? ((⟨b,0,none⟩:Addr).add j)=some u:=fun {b vs us e} hh j u hj=>by
  have hadd:(⟨b,0,none⟩:Addr).add j=⟨b,j,none⟩:=by unfold Addr.add; split <;> simp_all
  have hlt:=(List.getElem?_eq_some_iff.1 hj).1;rw[hadd,cell_of_row w b j _ e (0,0) hh];simp[List.getElem?_append_left hlt,hj]
 cases h with
 | sl h=>
  rcases (kn x _ h).sl_inv with ⟨h0,ex⟩|⟨pa,c,ex,hc,es⟩
  ·exact .inl ⟨h0,none,0,ex⟩
  ·obtain⟨news,n1,n2,n3,n4,n5⟩:=es.vals;exact .inr ⟨pa,c,news,ex,n1,n2,n3,n4,n5⟩
 | row k h hb=>
  have ex:=(kn x _ h).val_inv.1;rcases (hr.own k _ hb).row_inv with ⟨rfl,rfl⟩|⟨b,c,vs,us,rfl,hc,hm,hh,hz,he,h1,hs⟩
  ·exact .inl ⟨rfl,none,0,ex⟩
  ·exact .inr ⟨⟨b,0,none⟩,c,vs,ex,he,by rw[← he.length,uU hs],atRow hh,h1,hs⟩
 | @view l _ v0 e0 k lo hi h hb hc' hl=>
  subst hl;have ex:=(kn x _ h).val_inv.1;rcases (hr.own k _ hb).row_inv with ⟨rfl,rfl⟩|⟨b,c,vs,us,rfl,hc,hm,hh,hz,he,h1,hs⟩
  ·refine .inl ⟨by simp,none,0,?_⟩;rw[ex]; rfl
  ·simp only[vw] at ex;by_cases hcl:c=lo
   ·rw[if_pos hcl] at ex;exact .inl ⟨List.drop_eq_nil_of_le (by rw[List.length_take]; omega),_,_,ex⟩
   ·rw[if_neg hcl] at ex;have hvl:vs.length=l.length*sz:=by rw[← he.length,uU hs]
    have hs':∀ d∈(l.take hi).drop lo,d.cells.length=sz:=fun d hd=>hs d (List.mem_of_mem_take (List.mem_of_mem_drop hd));have hst:∀ d∈l.take hi,d.cells.length=sz:=fun d hd=>hs d (List.mem_of_mem_take hd);have hfl:((l.take hi).drop lo).flatMap Dat.cells=((l.flatMap Dat.cells).take (hi*sz)).drop (lo*sz):=by rw[flat_drop hst,flat_take hs]
    have hE:EncL w ok (((l.take hi).drop lo).flatMap Dat.cells) ((vs.take (hi*sz)).drop (lo*sz)):=by rw[hfl]; exact (he.take _).drop _
    refine .inr ⟨(⟨b,0,none⟩:Addr).add (lo*sz),c-lo,(vs.take (hi*sz)).drop (lo*sz),?_,hE,by rw[← hE.length,uU hs'],fun j u hj=>?_,fun v hv=>h1 v (List.mem_of_mem_take (List.mem_of_mem_drop hv)),hs'⟩
    ·rw[ex,List.length_drop,List.length_take,Nat.min_eq_left hc'.2]
    ·rw[List.getElem?_drop,List.getElem?_take] at hj;split at hj
     ·rw[ry]; exact atRow hh _ _ hj
     ·cases hj
theorem OpR.append {t1:TypeId} {x y:Operand} {i ie:TI} {e e0:TypeId} {sz by_:Nat} {v:Value} {l ds:List Dat} (k:Nat) (hi:lkT X.tab t1=some i) (hd:i.desc = .slice e) (hie:lkT X.tab e=some ie) (hsz:ie.size=sz) (hbt:ie.bytes=by_) (hz:Nat.beq ie.zero.cells.size ie.size=true)
 (hx:ev sl x=some (.val v)) (hb:ow[k]? = some (.row v l sz e)) (hy:Src sl ow y sz ds) (h63:l.length+ds.length≤maxLen) (hby:(l.length+ds.length)*by_≤140737488355328)
 {l':List Dat} (hl':l++ds=l') {ow':Value→List Own} (ho:∀ x,setK k (.row x l' sz e) ow some=some (ow' x)) :
 OpR X (.call { callee:=.builtin .append,args:=#[x,y],argTypes:=#[t1,t1] }) sl ow (fun x=>.val x) ow':=.of_val fun G a w ok hr kn dst ty pos after g=>by
 subst hl' hsz hbt;have hset:∀ x,ow' x=ow.set k (.row x (l++ds) ie.size e):=fun x=>(Option.some.inj (tS _ _ _ _ _ (ho x))).symm;have u1:=(X.tok _ _ hi).desc;obtain⟨xi,i1,i2,i3,i4⟩:=(X.tok _ _ hie).info;rw[hd] at u1;have hown:=hr.own k _ hb;have ex:=(kn x _ hx).val_inv.1;have ey:=hy.run hr kn;by_cases hm0:ds.length=0
 ·have hds:ds=[]:=List.length_eq_zero_iff.1 hm0;subst hds;have hey:∃ b' c',a.eval y = .slice b' 0 c':=by
   rcases ey with ⟨_,A,c,ey⟩|⟨pa,c,_,ey,_⟩
   ·exact⟨_,_,ey⟩
   ·exact⟨_,_,by simpa using ey⟩
  obtain⟨yb,yc,ey⟩:=hey;have hrun:(Builtin.append_ #[t1,t1] ty #[v,.slice yb 0 yc]).run X.P w = .ok v w:=by
   have u1':=zL (X.tok _ _ hi) w;rw[hd] at u1';have u2:=xm (X.tok _ _ hie) w;rcases hown.row_inv with ⟨rfl,rfl⟩|⟨b,c,vs,us,rfl,hc,_⟩
   ·cases yb <;> simp[Builtin.append_,u1',u2,Builtin.lenOf,Builtin.firstCells,loadCells,loadCellsFrom]
   ·cases yb <;> simp[Builtin.append_,u1',u2,Builtin.lenOf,Builtin.firstCells,loadCells,loadCellsFrom,hc,storeCells]
  refine⟨v,v,w,ok,?_,?_,.val ?_,Stay.refl _ _⟩
  ·simp only[execOp,resolve,invoke,builtin,Sem.run_bind,Sem.run_pure,Result.andThen_ok,List.map_toArray,List.map_cons,List.map_nil,ex,ey,hrun]
  ·rw[hset,List.append_nil];have:ow.set k (.row v l ie.size e)=ow:=by
    apply List.ext_getElem? ; intro m;by_cases hmk:k=m
    ·subst hmk;rw[List.getElem?_set_self (List.getElem?_eq_some_iff.1 hb).1,hb]
    ·rw[List.getElem?_set_ne hmk]
   rw[this]; exact hr
  ·rcases hown.row_inv with ⟨rfl,_⟩|⟨b,c,vs,us,rfl,_⟩ <;> rfl
 ·have hm:0<ds.length:=by omega
  rcases ey with ⟨h0,_⟩|⟨pa,c,news,ey,n1,n2,n3,n4,n5⟩
  ·rw[h0] at hm; cases hm
  obtain⟨vs,us,v1,v2,v3,v4,v5⟩:∃ vs us:List Value,vs.length=l.length*xi.size∧EncL w ok (l.flatMap Dat.cells) vs∧(∀ v∈vs,one v=true)∧(∀ d∈l,d.cells.length=ie.size) ∧
   ((v = .slice none 0 0∧l.length=0∧vs=[]∧us=[])∨∃ g c,v = .slice (some ⟨g,0,none⟩) l.length c∧w.heap[g]? = some (.cells (vs++us).toArray e (0,0))∧l.length≤c∧c≤maxLen∧c*xi.size=(vs++us).length):=by
   rcases hown.row_inv with ⟨rfl,rfl⟩|⟨b,c,vs,us,rfl,hc,hm',hh,hcz,he,h1,hs⟩
   ·exact⟨[],[],by simp,.nil,(fun _ h=>by cases h),(fun _ h=>by cases h),.inl ⟨rfl,rfl,rfl,rfl⟩⟩
   ·exact⟨vs,us,by rw[← he.length,uU hs,i2],he,h1,hs,.inr ⟨b,c,rfl,hh,hc,hm',by rw[i2]; exact hcz⟩⟩
  obtain⟨b',c',us',w',g1,g2,g3,g4,g5,g6,g7⟩:=append_run (P:=X.P) w t1 ty e xi ie.zero u1 i1 i4 (by rw[i2]; exact Nat.eq_of_beq_eq_true hz) v vs us l.length v1 v5 pa ds.length c news (by rw[n2,i2]) n3 n4 hm h63 (by rw[i3]; exact hby);have hob:∀ b,v.ownBlock=some b→(Own.row v l ie.size e).block=some b:=fun b hb'=>by
   rcases hown.row_inv with ⟨rfl,_⟩|⟨b1,c1,_,_,rfl,_⟩
   ·simp[Value.ownBlock] at hb'
   ·simp only[Value.ownBlock,Option.some.injEq] at hb'; exact congrArg some hb'
  have hc':Chg w w' (fun b=>(Own.row v l ie.size e).block=some b):=g6.imp hob;have hst:=hr.updStay hb hc';refine⟨.slice (some ⟨b',0,none⟩) (l.length+ds.length) c',_,w',ok,?_,?_,.val rfl,hst⟩
  ·simp only[execOp,resolve,invoke,builtin,Sem.run_bind,Sem.run_pure,Result.andThen_ok,List.map_toArray,List.map_cons,List.map_nil,ex,ey,g1]
  ·rw[hset];refine hr.upd hb hc' (.row (us:=us') (by rw[List.length_append]) (by rw[← List.length_append] at g3; simpa using g3) g4 g2 (by rw[← i2,g5]) (by rw[List.flatMap_append]; exact (v2.mono hst).append (n1.mono hst)) (fun v hv=>(List.mem_append.1 hv).elim (v3 v) (n4 v)) (fun d hd=>(List.mem_append.1 hd).elim (v4 d) (n5 d))) (fun m hm=>?_);obtain rfl:=Option.some.inj hm;rcases g7 with h|h
   ·exact .inl (hob _ h)
   ·exact .inr ⟨by rw[h.1]; exact Nat.le_refl _,by rw[h.1]; exact h.2⟩
theorem ya (sz:Nat) (e:TypeId) {ow':List Own} (ho:appK ow (.row (.slice none 0 0) [] sz e) some=some ow'):Gst ⟨sl,ow,n⟩ ⟨sl,ow',n⟩:=fun G a w ok hr=>by
 obtain rfl:=Option.some.inj (rx _ _ _ _ ho);exact⟨ok,hr.step (hr.toRepB.newOwn .nil (fun b hb=>by cases hb)) (Stay.refl _ _)⟩
end
mutual
inductive Re (R:Dat→Dat→Prop):Dat→Dat→Prop
  | base {d d':Dat} (h:R d d'):Re R d d'
  | refl {d:Dat}:Re R d d
  | agg {cs cs':List Dat} (h:ReL R cs cs') (h1:∀ d d',R d d'→∃ v,d = .val v):Re R (.agg cs) (.agg cs')
  | tup {cs cs':List Dat} (h:ReL R cs cs'):Re R (.tup cs) (.tup cs')
  | fn {f:Fn} {cs cs':List Dat} (h:ReL R cs cs'):Re R (.fn f [] cs) (.fn f [] cs')
inductive ReL (R:Dat→Dat→Prop):List Dat→List Dat→Prop
  | nil:ReL R [] []
  | cons {d d':Dat} {l l':List Dat} (h:Re R d d') (hr:ReL R l l'):ReL R (d::l) (d'::l')
end
section
variable {X:Prg} {sl:List (Nat × Dat)} {ow:List Own} {n:Nat} {w:World} {ok ok':Nat→Prop} {R:Dat→Dat→Prop}
mutual
theorem Enc.re (h:∀ d d' v,R d d'→Enc w ok d v→Enc w ok' d' v) (hm:∀ d v,Enc w ok d v→Enc w ok' d v):∀ {d d':Dat} {v:Value},Re R d d'→Enc w ok d v→Enc w ok' d' v
 | _,_,_,.base hb,he=>h _ _ _ hb he
 | _,_,_,.refl,he=>hm _ _ he
 | _,_,_,.agg hl h1,he=>by
  obtain⟨vs,rfl,h2,h3⟩:=he.agg_inv;exact .agg h2 (EncL.re h hm hl h3)
 | _,_,_,.tup hl,he=>by
  obtain⟨vs,rfl,h3⟩:=he.tup_inv;exact .tup (EncL.re h hm hl h3)
 | _,_,_,.fn hl,he=>by
  obtain⟨vs,us,rfl,h3,h4⟩:=he.fn_inv;cases h3;exact .fn (vs:=[]) .nil (EncL.re h hm hl h4)
theorem EncL.re (h:∀ d d' v,R d d'→Enc w ok d v→Enc w ok' d' v) (hm:∀ d v,Enc w ok d v→Enc w ok' d v):∀ {ds ds':List Dat} {vs:List Value},ReL R ds ds'→EncL w ok ds vs→EncL w ok' ds' vs
 | _,_,_,.nil,.nil=>.nil
 | _,_,_,.cons hd hr,.cons h1 h2=>.cons (Enc.re h hm hd h1) (EncL.re h hm hr h2)
end
inductive ReS (R:Dat→Dat→Prop):List (Nat × Dat)→List (Nat × Dat)→Prop
  | nil:ReS R [] []
  | cons {t:Nat} {d d':Dat} {l l':List (Nat × Dat)} (h:Re R d d') (hr:ReS R l l'):ReS R ((t,d)::l) ((t,d')::l')
theorem ReS.lk:∀ {l l':List (Nat × Dat)} {t:Nat} {d':Dat},ReS R l l'→Go.Sm.lk l' t=some d'→∃ d,Go.Sm.lk l t=some d∧Re R d d'
 | _,_,t,d',.cons (t:=s) h hr,hl=>by
  rw[sq] at hl;by_cases e:s=t
  ·rw[if_pos e] at hl;obtain rfl:=Option.some.inj hl;exact⟨_,by rw[sq,if_pos e],h⟩
  ·rw[if_neg e] at hl;obtain⟨d,h1,h2⟩:=ReS.lk hr hl;exact⟨d,by rw[sq,if_neg e]; exact h1,h2⟩
inductive ReO (R:Dat→Dat→Prop):List Own→List Own→Prop
  | nil:ReO R [] []
  | same {o:Own} {l l':List Own} (hr:ReO R l l'):ReO R (o::l) (o::l')
  | var {b:Nat} {cs cs':List Dat} {t:TypeId} {l l':List Own} (h:ReL R cs cs') (hr:ReO R l l'):ReO R (.var b cs t::l) (.var b cs' t::l')
theorem ReO.get:∀ {l l':List Own} {k:Nat} {o':Own},ReO R l l'→l'[k]? = some o'→∃ o,l[k]? = some o∧o.block=o'.block∧(o=o'∨∃ b cs cs' t,o = .var b cs t∧o' = .var b cs' t∧ReL R cs cs')
 | _,_,0,o',.same hr,h=>by simp at h; subst h; exact⟨_,rfl,rfl,.inl rfl⟩
 | _,_,0,o',.var hc hr,h=>by simp at h; subst h; exact⟨_,rfl,rfl,.inr ⟨_,_,_,_,rfl,rfl,hc⟩⟩
 | _,_,k+1,o',.same hr,h=>by simpa using ReO.get hr (by simpa using h)
 | _,_,k+1,o',.var _ hr,h=>by simpa using ReO.get hr (by simpa using h)
theorem Rep.re {G:Gh} {a:Act} (hr:Rep G ⟨sl,ow,n⟩ a w ok) (h:∀ d d' v,R d d'→Enc w ok d v→Enc w ok d' v) {sl':List (Nat × Dat)} {ow':List Own} (hs:ReS R sl sl') (ho:ReO R ow ow'):Rep G ⟨sl',ow',n⟩ a w ok where
 own:=fun k o hk=>by
  obtain⟨o1,h1,h2,h3⟩:=ho.get hk;rcases h3 with rfl|⟨b,cs,cs',t,rfl,rfl,h4⟩
  ·exact hr.own k _ h1
  ·obtain⟨vs,e1,e2,e3⟩:=(hr.own k _ h1).var_inv;exact .var e1 (EncL.re h (fun _ _ h=>h) h4 e2) e3
 inj:=fun i j p q b h1 h2 b1 b2=>by
  obtain⟨p1,e1,f1,_⟩:=ho.get h1;obtain⟨q1,e2,f2,_⟩:=ho.get h2;exact hr.inj i j p1 q1 b e1 e2 (f1.trans b1) (f2.trans b2)
 okf:=fun b hb=>⟨(hr.okf b hb).1,fun k o hk hob=>by
  obtain⟨o1,e1,f1,_⟩:=ho.get hk;exact (hr.okf b hb).2 k o1 e1 (f1.trans hob)⟩
 blt:=fun k o b hk hob=>by
  obtain⟨o1,e1,f1,_⟩:=ho.get hk;exact hr.blt k o1 b e1 (f1.trans hob)
 prot:=hr.prot
 gsz:=hr.gsz
 os:=hr.os
 out:=hr.out
 tape:=hr.tape
 ok0:=hr.ok0
 org:=hr.org
 gl:=hr.gl
 hd:=hr.hd
 hs:=hr.hs
 sl:=fun t d ht=>by
  obtain⟨d1,h1,h2⟩:=hs.lk ht;exact⟨(hr.sl t d1 h1).1,Enc.re h (fun _ _ h=>h) h2 (hr.sl t d1 h1).2⟩
inductive RRow (v:Value) (l:List Dat) (sz:Nat):Dat→Dat→Prop
  | all:RRow v l sz (.val v) (.sl sz l)
theorem zA {v:Value} {l:List Dat} {sz:Nat} {e:TypeId} (k:Nat) (hb:ow[k]? = some (.row v l sz e)) {ow1 ow':List Own} (hk:setK k .gone ow some=some ow1) {sl':List (Nat × Dat)} (hs:ReS (RRow v l sz) sl sl') (ho:ReO (RRow v l sz) ow1 ow'):Gst ⟨sl,ow,n⟩ ⟨sl',ow',n⟩:=fun G a w ok hr=>by
 obtain rfl:=Option.some.inj (tS _ _ _ _ _ hk);have hg:=hr.toRepB.give hb;have hstay:Stay w w ok (fun m=>ok m∨(Own.row v l sz e).block=some m):=sY fun _ h=>.inl h;refine⟨_,(hr.step hg hstay).re (R:=RRow v l sz) (fun d d' u hR he=>?_) hs ho⟩;cases hR with
 | all=>
  obtain rfl:=he.val_inv.1;rcases (hr.own k _ hb).row_inv with ⟨rfl,rfl⟩|⟨b,c,vs,us,rfl,hc,hm,hh,hz,he',h1,hs'⟩
  ·exact .slnil
  ·have hC:=EncL.toC (ok':=fun m=>ok m∨(Own.row (.slice (some ⟨b,0,none⟩) l.length c) l sz e).block=some m) hh (.inr rfl) 0 (he'.mono hstay) h1 (fun j v hj=>by
    have hlt:=(List.getElem?_eq_some_iff.1 hj).1;simp[List.getElem?_append_left hlt,hj])
   exact .sl rfl hc (hC.flat hs')
inductive RVar (b:Nat) (cs:List Dat):Dat→Dat→Prop
  | at_ {off:Nat}:RVar b cs (.val (.pointer (some ⟨b,off,none⟩))) (.nod (cs.drop off))
  | all:RVar b cs (.val (.pointer (some ⟨b,0,none⟩))) (.nod cs)
theorem pN {b:Nat} {cs:List Dat} {e:TypeId} (k:Nat) (hb:ow[k]? = some (.var b cs e)) {ow1 ow':List Own} (hk:setK k .gone ow some=some ow1) {sl':List (Nat × Dat)} (hs:ReS (RVar b cs) sl sl') (ho:ReO (RVar b cs) ow1 ow'):Gst ⟨sl,ow,n⟩ ⟨sl',ow',n⟩:=fun G a w ok hr=>by
 obtain rfl:=Option.some.inj (tS _ _ _ _ _ hk);have hg:=hr.toRepB.give hb;have hstay:Stay w w ok (fun m=>ok m∨(Own.var b cs e).block=some m):=sY fun _ h=>.inl h;obtain⟨vs,e1,e2,e3⟩:=(hr.own k _ hb).var_inv;have hC:=EncL.toC (ok':=fun m=>ok m∨(Own.var b cs e).block=some m) e1 (.inr rfl) 0 (e2.mono hstay) e3 (fun j v hj=>by simpa using hj);refine⟨_,(hr.step hg hstay).re (R:=RVar b cs) (fun d d' u hR he=>?_) hs ho⟩;cases hR with
 | all=>obtain rfl:=he.val_inv.1; exact .nod hC
 | at_=>
  obtain rfl:=he.val_inv.1;have:=hC.drop ‹Nat›;rw[sa,Nat.zero_add] at this;exact .nod this
end
end Go.Sm
