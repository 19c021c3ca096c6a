import Derived.Test.YtpmhiiemklhbhaaGreatSJ
import Derived.Lib.AppendStr
set_option linter.unusedVariables false
namespace Go.Sm
open Go.RowKit
section
variable {X:Prg} {op:Op} {sl:List (Nat × Dat)} {ow:List Own} {d:Dat} {n:Nat} {Q:Exit→St→Prop} {w:World} {ok:Nat→Prop}
theorem strCells_bs (m:List UInt8):Go.Lib.strCells (bs m)=m.map fun b=>Value.int .u8 b.toNat:=by
 simp[Go.Lib.strCells,bs]
theorem enc_bytes (w:World) (ok:Nat→Prop):∀ m:List UInt8,EncL w ok ((m.map wt).flatMap Dat.cells) (m.map fun b=>Value.int .u8 b.toNat)
 | []=>.nil
 | b::m=>by
  have:=enc_bytes w ok m;exact .cons (.val rfl) this
theorem byteD_cells (m:List UInt8):∀ d∈m.map wt,d.cells.length=1:=fun d hd=>by
 obtain⟨b,_,rfl⟩:=List.mem_map.1 hd;rfl
theorem OpR.appendStr {t1 t2:TypeId} {x y:Operand} {i i2 ie:TI} {e:TypeId} {v:Value} {l m r:List UInt8} (k:Nat) (h:app 1 l m=some r) (hi:lkT X.tab t1=some i) (hd:i.desc = .slice e) (hi2:lkT X.tab t2=some i2) (hd2:i2.desc = .string) (hie:lkT X.tab e=some ie) (hsz:ie.size=1) (hbt:ie.bytes=1) (hz:ie.zero = .int .u8 0)
 (hx:ev sl x=some (.val v)) (hb:ow[k]? = some (.row v (l.map wt) 1 e)) (hy:ev sl y=some (.val (.string (bs m)))) {ow':Value→List Own} (ho:∀ x,setK k (.row x (r.map wt) 1 e) ow some=some (ow' x)) :
 OpR X (.call { callee:=.builtin .append,args:=#[x,y],argTypes:=#[t1,t2] }) sl ow (fun x=>.val x) ow':=.of_val fun G a w ok hr kn dst ty pos after g=>by
 obtain⟨rfl,h63,hby⟩:=app_some h;have hset:∀ x,ow' x=ow.set k (.row x ((l++m).map wt) 1 e):=fun x=>(Option.some.inj (tS _ _ _ _ _ (ho x))).symm;have u1:=(X.tok _ _ hi).desc;have u2:=(X.tok _ _ hi2).desc;obtain⟨xi,i1,j2,j3,j4⟩:=(X.tok _ _ hie).info;rw[hd] at u1;rw[hd2] at u2;rw[hsz] at j2;rw[hbt] at j3;rw[hz] at j4;have hown:=hr.own k _ hb;have ex:=(kn x _ hx).val_inv.1;have ey:=(kn y _ hy).val_inv.1;have hsize:(bs m).size=m.length:=by simp[bs,ByteArray.size]
 obtain⟨vs,o1,o2,o3,o4⟩:∃ vs:List Value,w.ownsRow 0 e 1 v l.length vs∧EncL w ok ((l.map wt).flatMap Dat.cells) vs∧(∀ u∈vs,one u=true)∧(v = .slice none 0 0∨∃ g c cur,v = .slice (some ⟨g,0,none⟩) l.length c∧w.heap[g]? = some (.cells cur e (0,0))∧cur.size=c∧l.length≤c):=by
  rcases hown.row_inv with ⟨rfl,h0⟩|⟨b,c,vs,us,rfl,hc,hm',hh,hcz,he,h1,hs⟩
  ·have:l=[]:=by simpa using h0
   subst this;exact⟨[],⟨rfl,.inl ⟨rfl,rfl⟩⟩,.nil,(fun _ h=>by cases h),.inl rfl⟩
  ·rw[List.length_map] at hc;have hvl:vs.length=l.length:=by rw[← he.length,uU (byteD_cells l)]; simp
   refine⟨vs,⟨by omega,.inr ⟨b,c,_,by simp,Nat.zero_le _,hh,hc,hm',by simpa using hcz.symm,?_⟩⟩,he,h1,.inr ⟨b,c,_,by simp,hh,by simpa using hcz.symm,hc⟩⟩;rw[Nat.mul_one,← hvl];exact List.take_left
 obtain⟨v',w',g1,g2,g3,g4⟩:=Go.Lib.run_append_own_string (P:=X.P) w 0 t1 t2 ty e xi u1 u2 i1 j4 j2 j3 v l.length vs o1 (bs m) (by rw[hsize]; exact h63) (by rw[hsize]; simpa using hby) (Nat.zero_le _);have hob:∀ b,v.ownBlock=some b→(Own.row v (l.map wt) 1 e).block=some b:=fun b hb'=>by
  rcases o4 with rfl|⟨g,c,cur,rfl,_⟩
  ·simp[Value.ownBlock] at hb'
  ·simp only[Value.ownBlock,Option.some.injEq] at hb'; exact congrArg some hb'
 have hblk:∀ j,v'.ownBlock=some j→v.ownBlock=some j∨w.heap.size≤j:=fun j hj=>by
  rcases o4 with rfl|⟨g0,c,cur,rfl,hg0,hcur,hlc⟩
  ·obtain⟨v2,w2,r1,r2,_,_⟩:=Go.Lib.run_append_own_string (P:=X.P) w w.heap.size t1 t2 ty e xi u1 u2 i1 j4 j2 j3 _ l.length vs ⟨o1.1,o1.2.imp id fun ⟨g,cap,cur,h1,_⟩=>by cases h1⟩ (bs m) (by rw[hsize]; exact h63) (by rw[hsize]; simpa using hby) (Nat.le_refl _);rw[g1] at r1;injection r1 with r1 _;subst r1;rcases r2.2 with ⟨rfl,_⟩|⟨g,cap,cur,rfl,h1,_⟩
   ·simp[Value.ownBlock] at hj
   ·simp only[Value.ownBlock,Option.some.injEq] at hj;exact .inr (hj▸h1)
  ·by_cases hroom:l.length+(bs m).size≤c
   ·have r1:=Go.Lib.run_append_room_string (P:=X.P) w t1 t2 ty e xi u1 u2 i1 j2 g0 l.length c cur hg0 (bs m) hroom (by omega);rw[g1] at r1;injection r1 with r1 _;subst r1;exact .inl hj
   ·have holds:∀ (j:Nat) u,vs[j]? = some u→w.cell? ((⟨g0,0,none⟩:Addr).add j)=some u:=o1.cells (g:=g0) rfl;have r1:=Go.Lib.run_append_grow_string (P:=X.P) w t1 t2 ty e xi (.int .u8 0) u1 u2 i1 j4 ⟨g0,0,none⟩ l.length c vs (by rw[j2]; exact o1.1) holds (bs m) (by omega) (by rw[hsize]; simp only[maxLen] at h63; omega) (by rw[j3]; exact growslice_fits (by omega) (by rw[hsize]; simp only[maxLen] at h63; omega));rw[g1] at r1;injection r1 with r1 _;subst r1;simp only[Value.ownBlock,Option.some.injEq] at hj;exact .inr (by omega)
 have hc':Chg w w' (fun b=>(Own.row v (l.map wt) 1 e).block=some b):=⟨g3.os,g3.output,g3.tape,g3.size,fun b hb' hn=>g3.block b hb' (fun e'=>hn (hob b e'.symm))⟩;have hst:=hr.updStay hb hc';have hv1:one v'=true:=by
  rcases g2.2 with ⟨rfl,_⟩|⟨_,_,_,rfl,_⟩ <;> rfl
 refine⟨v',v',w',ok,?_,?_,.val hv1,hst⟩
 ·simp only[execOp,resolve,invoke,builtin,Sem.run_bind,Sem.run_pure,Result.andThen_ok,List.map_toArray,List.map_cons,List.map_nil,ex,ey,g1]
 ·rw[hset];obtain⟨q1,q2⟩:=g2;rw[hsize] at q1 q2;rcases q2 with ⟨rfl,q0⟩|⟨g',cap,cur,rfl,_,q3,q4,q5,q6,q7⟩
  ·have hl0:l=[]:=List.length_eq_zero_iff.1 (by omega);have hm0:m=[]:=List.length_eq_zero_iff.1 (by omega);subst hl0 hm0;exact hr.upd hb hc' .nil (fun m hm=>by cases hm)
  ·refine hr.upd hb hc' (.row (vs:=vs++Go.Lib.strCells (bs m)) (us:=cur.toList.drop ((l.length+m.length)*1)) (by simp) (by simpa using q4) q5 ?_ ?_ ?_ (fun u hu=>?_) (byteD_cells _)) (fun j hj=>?_)
   ·rw[← q7,List.take_append_drop]; exact q3
   ·rw[← q7,List.take_append_drop]; simpa using q6.symm
   ·rw[List.map_append,List.flatMap_append,strCells_bs];exact (o2.mono hst).append (enc_bytes _ _ m)
   ·rcases List.mem_append.1 hu with hu|hu
    ·exact o3 u hu
    ·rw[strCells_bs] at hu;obtain⟨b,_,rfl⟩:=List.mem_map.1 hu;rfl
   ·obtain rfl:g'=j:=by simpa [Own.block,vblk] using hj
    rcases hblk g' rfl with h|h
    ·exact .inl (hob g' h)
    ·exact .inr ⟨h,(Array.getElem?_eq_some_iff.1 q3).1⟩
theorem aA {ops:Array Oper} {rest:List Oper} {op:Op} {ty:TypeId} {pos:String} {after:Array Edge} {t:Nat} {n:Nat} {d:Dat} (h:tp (lkT X.tab) op sl=some d) (ht:Nat.blt t n=true) (hk:TL X ops rest ⟨(t,d)::sl,ow,n⟩ Q) :
 TL X ops ({ dst:=some t,op:=op,type:=ty,pos:=pos,after:=after,guard:=none }::rest) ⟨sl,ow,n⟩ Q:=z6 (OpR.pure h) ht hk
theorem aS {id:Nat} {l:List Oper} {y:Code} {S:St} (h:TL X l.toArray l S (Then X y Q)):T X (.seq (.region id l.toArray false) y) S Q:=T.seq (T.region h)
section
variable {l:List Oper} {vals:List Dat} {base:List (Nat × Dat)}
theorem aB {i:Nat} {o:Oper} {os:List Oper} {d:Dat} (hg:o.guard=none) (hd:(vals[i]?).getD .dead=d) (h:tp (lkT X.tab) o.op (knS l vals base o)=some d) (hr:zq X l vals ow base (i+1) os):zq X l vals ow base i (o::os):=
 zq.yes (Want.plain hg) hd (OpR.pure h) hr
variable {valsE:(Nat→Value)→List Dat} {OW:(Nat→Bool)→(Nat→Value)→List Own} {pre:List Nat}
theorem aC {i:Nat} {o:Oper} {os:List Oper} (hr:xd X l valsE OW base pre (i+1) os) (hg:o.guard=none:=by rfl) (h:∀ env,tp (lkT X.tab) o.op (knS l (valsE env) base o)=some (((valsE env)[i]?).getD .dead):=by intro _; rfl)
 (hd:∀ env x,((valsE (upd env i x))[i]?).getD .dead=((valsE env)[i]?).getD .dead:=by intro _ _; rfl) (e1:∀ D env x,OW (ins i D) (upd env i x)=OW D env:=by intro _ _ _; rfl) (hs:∀ D,At l pre i D→Same valsE D i:=by exact fun _ _ _ _ _ _ _=>rfl):xd X l valsE OW base pre i (o::os):=
 zj true (fun D env _=>OpS.same (Want.plain hg) (fun x=>hd env x) (e1 D env) (OpR.pure (h env))) hs hr
end
end
abbrev dP (b:Nat):Dat:=.val (.pointer (some ⟨b,0,none⟩))
abbrev dQ:Dat:=.val (.pointer none)
abbrev dN (x:Int):Dat:=.val (.int .i64 x)
abbrev dT (b:Bool):Dat:=.val (.bool b)
abbrev lB (l:List UInt8):List Dat:=List.map wt l
section
variable {X:Prg} {Q:Exit→St→Prop}
theorem aN {ops:Array Oper} {y:Code} {S S':St} {Q':Exit→St→Prop} (e:Q .normal S=T X y S' Q') (h:T X y S' Q'):TL X ops [] S Q:=TL.nil (e.symm▸h)
theorem aK {y:Code} {S S':St} {Q':Exit→St→Prop} (e:Q .normal S=T X y S' Q') (h:T X y S' Q'):T X .skip S Q:=T.skip (e.symm▸h)
theorem cV {S:St} {a b off:Nat} {t be:TypeId} {i:TI} {cs:List Dat} {d:Dat} {rs:List ResultVar} {ds:List Dat} (k:Nat) (hi:lkT X.tab t=some i) (ha:lk S.sl a=some (.val (.pointer (some ⟨b,off,none⟩)))) (hb:S.ow[k]? = some (.var b cs be)) (hd:dropK off cs (fun r=>partD i r)=some d) (hr:ResL X S rs ds):ResL X S (.cell a t::rs) (d::ds):=
 ResL.cons (ResV.var k hi ha hb hd) hr
theorem cT {S:St} {t:Nat} {d:Dat} {rs:List ResultVar} {ds:List Dat} (h:lk S.sl t=some d) (hr:ResL X S rs ds):ResL X S (.tmp t::rs) (d::ds):=ResL.cons (ResV.tmp h) hr
end
theorem bS {α β:Type} {x:Option α} {f:α→Option β} {r:β} (h:bnd x f=some r):∃ a,x=some a∧f a=some r:=vt h
section
variable {X:Prg} {sl sl':List (Nat × Dat)} {ow ow1 o2:List Own} {n:Nat} {rs:List ResultVar} {d:Value→Dat} {ow':Value→List Own} {ds:List Dat}
theorem gP (ks ms:List Nat) (ho:only ks sl []=some sl') (hm:uC ms ow=some ow1) (hn:wS ms=true):Gst ⟨sl,ow,n⟩ ⟨sl',ow1,n⟩:=Gst.trans (Gst.only ks ho) (Gst.pick ms hm hn)
theorem rP (qs ks ms:List Nat) (ho:only ks sl []=some sl') (hm:uC ms ow=some ow1) (hmn:wS ms=true) (x:Value) (h:ResL X ⟨sl',ow1,n⟩ rs ds) (hp:uC qs ow1=some o2) (hn:wS qs=true) (h1:pack ds=d x) (h2:o2=ow' x) :
 yw X rs (fun r o=>∃ x,r=d x∧o=ow' x) .ret ⟨sl,ow,n⟩:=zC (gP ks ms ho hm hmn) x h hp hn h1 h2
theorem rO (qs ks:List Nat) (ho:only ks sl []=some sl') (x:Value) (h:ResL X ⟨sl',ow,n⟩ rs ds) (hp:uC qs ow=some o2) (hn:wS qs=true) (h1:pack ds=d x) (h2:o2=ow' x) :
 yw X rs (fun r o=>∃ x,r=d x∧o=ow' x) .ret ⟨sl,ow,n⟩:=zC (Gst.only ks ho) x h hp hn h1 h2
end
theorem oT {X:Prg} {l:List Oper} {base:List (Nat × Dat)} {valsE:(Nat→Value)→List Dat} {OW:(Nat→Bool)→(Nat→Value)→List Own} {pre:List Nat} {i:Nat} {o:Oper} {os:List Oper} (d:Dat) (h:∀ D env,OpR X o.op (knS l (valsE env) base o) (OW D env) (fun _=>d) (fun _=>OW D env)) (hr:xd X l valsE OW base pre (i+1) os)
 (hw:∀ env,Want l (knS l (valsE env) base o) o true:=by exact fun _=>Want.plain rfl) (hd:∀ env,((valsE env)[i]?).getD .dead=d:=by exact fun _=>rfl) (e1:∀ D env x,OW (ins i D) (upd env i x)=OW D env:=by exact fun _ _ _=>rfl) (hs:∀ D,At l pre i D→Same valsE D i:=by exact fun _ _ _ _ _ _ _=>rfl):xd X l valsE OW base pre i (o::os):=oS hw hd e1 h hs hr
theorem osi {α:Type} {a b:α} (h:some a=some b):a=b:=Option.some.inj h
theorem eT {p:Prop} [Decidable p] (h:p):decide p=true:=decide_eq_true h
theorem eF {p:Prop} [Decidable p] (h:¬p):decide p=false:=decide_eq_false h
theorem Z {α:Sort _} {a:α}:a=a:=rfl
theorem eN {b:Bool} (h:¬b=true):b=false:=eq_false_of_ne_true h
end Go.Sm
