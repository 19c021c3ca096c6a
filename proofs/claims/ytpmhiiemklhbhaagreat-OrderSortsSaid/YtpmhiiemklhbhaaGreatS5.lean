import Derived.Test.YtpmhiiemklhbhaaGreatS4
set_option linter.unusedVariables false
namespace Go.Sm
open Go.RowKit
def appK {α β:Type}:List α→α→(List α→Option β)→Option β
| [],a,k=>k [a]
| b::r,a,k=>appK r a fun l=>k (b::l)
theorem rx {α γ:Type}:∀ (l:List α) (a:α) (k:List α→Option γ) (c:γ),appK l a k=some c→k (l++[a])=some c
 | [],a,k,c,h=>by simpa [appK] using h
 | b::r,a,k,c,h=>by
  have:=rx r a _ c (by simpa [appK] using h);simpa using this
def setK {α β:Type}:Nat→α→List α→(List α→Option β)→Option β
| 0,a,_::r,k=>k (a::r)
| n+1,a,b::r,k=>setK n a r fun l=>k (b::l)
| _,_,[],_=>none
theorem tS {α γ:Type}:∀ (n:Nat) (a:α) (l:List α) (k:List α→Option γ) (c:γ),setK n a l k=some c→k (l.set n a)=some c
 | 0,a,b::r,k,c,h=>by simpa [setK] using h
 | n+1,a,b::r,k,c,h=>by
  have:=tS n a r _ c (by simpa [setK] using h);simpa using this
 | 0,a,[],k,c,h=>by simp[setK] at h
 | n+1,a,[],k,c,h=>by simp[setK] at h
def uQ {β:Type}:Nat→List Dat→List Dat→(List Dat→Option β)→Option β
 | 0,us,cs,k=>match us,cs with
  | [],cs=>k cs
  | u::us,_::cs=>uQ 0 us cs fun l=>k (u::l)
  | _::_,[]=>none
 | n+1,us,c::cs,k=>uQ n us cs fun l=>k (c::l)
 | _+1,_,[],_=>none
theorem ra {γ:Type}:∀ (n:Nat) (us cs:List Dat) (k:List Dat→Option γ) (b:γ),uQ n us cs k=some b→n+us.length≤cs.length∧k (cs.take n++us++cs.drop (n+us.length))=some b
 | 0,[],cs,k,b,h=>⟨by simp,by simpa [uQ] using h⟩
 | 0,u::us,c::cs,k,b,h=>by
  have:=ra 0 us cs _ b (by simpa [uQ] using h);refine⟨by simp at this ⊢; omega,?_⟩;have h2:=this.2;simp at h2 ⊢;exact h2
 | 0,u::us,[],k,b,h=>by simp[uQ] at h
 | n+1,us,c::cs,k,b,h=>by
  have:=ra n us cs _ b (by simpa [uQ] using h);refine⟨by simp at this ⊢; omega,?_⟩;have h2:=this.2;simp[Nat.add_right_comm] at h2 ⊢;exact h2
 | n+1,us,[],k,b,h=>by simp[uQ] at h
section
variable {X:Prg} {op:Op} {sl:List (Nat × Dat)} {ow:List Own} {d:Dat} {n:Nat} {Q:Exit→St→Prop} {w:World} {ok:Nat→Prop}
theorem OpR.of_val {d:Value→Dat} {ow':Value→List Own} (h:∀ (G:Gh) (a:Act) (w:World) (ok:Nat→Prop),RepB G ow w ok→Kn sl a w ok→∀ (dst:Option Tmp) (ty:TypeId) (pos:String) (after:Array Edge) (g:Option (Nat × Bool)),
 ∃ x v w' ok',(execOp a.eval { dst:=dst,op:=op,type:=ty,pos:=pos,after:=after,guard:=g }).run X.P w = .ok (.value v) w'∧RepB G (ow' x) w' ok'∧Enc w' ok' (d x) v∧Stay w w' ok ok'):OpR X op sl ow d ow':=fun G a w ok hr kn o ho K Qm hK=>by
 obtain⟨dst,op',ty,pos,after,g⟩:=o;dsimp only at ho; subst ho;obtain⟨x,v,w',ok',h1,h2,h3,h4⟩:=h G a w ok hr kn dst ty pos after g;exact vA h1 (fun d h=>by cases h) (hK x v w' ok' h2 h3 h4)
theorem OpR.of_skip {ow':List Own} (h:∀ (G:Gh) (a:Act) (w:World) (ok:Nat→Prop),RepB G ow w ok→Kn sl a w ok→∀ (dst:Option Tmp) (ty:TypeId) (pos:String) (after:Array Edge) (g:Option (Nat × Bool)),
 ∃ w' ok',(execOp a.eval { dst:=dst,op:=op,type:=ty,pos:=pos,after:=after,guard:=g }).run X.P w = .ok .skip w'∧RepB G ow' w' ok'∧Stay w w' ok ok'):OpR X op sl ow (fun _=>.dead) (fun _=>ow'):=fun G a w ok hr kn o ho K Qm hK=>by
 obtain⟨dst,op',ty,pos,after,g⟩:=o;dsimp only at ho; subst ho;obtain⟨w',ok',h1,h2,h4⟩:=h G a w ok hr kn dst ty pos after g;exact vA h1 (fun d h=>by cases h) (hK undef _ w' ok' h2 .dead h4)
def po:List Value→Option (List Dat)
 | []=>some []
 | v::r=>match simple v,po r with
  | true,some l=>some (.val v::l)
  | _,_=>none
theorem r9 (w:World) (ok:Nat→Prop):∀ {vs:List Value} {cs:List Dat},po vs=some cs→EncL w ok cs vs∧∀ u∈vs,one u=true
 | [],cs,h=>by simp[po] at h; subst h; exact⟨.nil,by simp⟩
 | v::r,cs,h=>by
  simp only[po] at h;split at h
  ·rename_i l h1 h2;obtain rfl:=Option.some.inj h;have:=r9 w ok h2;refine⟨.cons (.val (uZ h1)) this.1,fun u hu=>?_⟩;rcases List.mem_cons.1 hu with rfl|hu
   ·exact uZ h1
   ·exact this.2 u hu
  ·cases h
theorem newVar_rep {G:Gh} (hr:RepB G ow w ok) {cs:List Dat} {vs:List Value} {t:TypeId} (he:EncL w ok cs vs) (h1:∀ v∈vs,one v=true):RepB G (ow++[.var w.heap.size cs t]) (w.alloc (.cells vs.toArray t (0,0))) ok:=by
 have hc:=Chg.alloc w (.cells vs.toArray t (0,0)) (fun _=>False);exact hr.newOwn' hc (b:=w.heap.size) (.var (vH _ _) (he.mono (hr.stay0 hc)) h1) (fun m hm=>(Option.some.inj hm).symm) (Nat.le_refl _) (by rw[uj]; omega)
theorem OpR.alloc {e:TypeId} {i:TI} {cs:List Dat} (hi:lkT X.tab e=some i) (hz:po i.zero.cells.toList=some cs) {ow':Value→List Own} (ho:∀ x,appK ow (.var (blk x) cs e) some=some (ow' x)) :
 OpR X (.alloc e) sl ow (fun x=>.val (.pointer (some ⟨blk x,0,none⟩))) ow':=.of_val fun G a w ok hr kn dst ty pos after g=>by
 have hz':=r9 w ok hz;have u1:=tG (X.tok _ _ hi) w;refine⟨.pointer (some ⟨w.heap.size,0,none⟩),.pointer (some ⟨w.heap.size,0,none⟩),w.alloc (.cells i.zero.cells.toList.toArray e (0,0)),ok,?_,?_,.val rfl,hr.stay0 (Chg.alloc w _ _)⟩
 ·simp only[execOp,Instr.alloc,newVar,newRow,newObj];simp[Sem.run,u1]
 ·have:=Option.some.inj (rx _ _ _ _ (ho (.pointer (some ⟨w.heap.size,0,none⟩))));rw[← this];exact newVar_rep hr hz'.1 hz'.2
theorem xK {e:TypeId} {x:Operand} (hx:ev sl x=some d) (hl:live d=true) {ow':Value→List Own} (ho:∀ x,appK ow (.var (blk x) d.cells e) some=some (ow' x)) :
 OpR X (.box e x) sl ow (fun x=>.val (.pointer (some ⟨blk x,0,none⟩))) ow':=.of_val fun G a w ok hr kn dst ty pos after g=>by
 obtain⟨vs,e1,e2,e3⟩:=(kn x d hx).cells hl;refine⟨.pointer (some ⟨w.heap.size,0,none⟩),.pointer (some ⟨w.heap.size,0,none⟩),w.alloc (.cells vs.toArray e (0,0)),ok,?_,?_,.val rfl,hr.stay0 (Chg.alloc w _ _)⟩
 ·simp only[execOp,Instr.box,newVar,newRow,newObj];simp[Sem.run,e1]
 ·have:=Option.some.inj (rx _ _ _ _ (ho (.pointer (some ⟨w.heap.size,0,none⟩))));rw[← this];exact newVar_rep hr e2 e3
theorem zD {e:TypeId} {x:Operand} (hx:ev sl x=some d) (hl:live d=true) :
 OpR X (.box e x) sl ow (fun _=>.nod d.cells) (fun _=>ow):=.of_val fun G a w ok hr kn dst ty pos after g=>by
 obtain⟨vs,e1,e2,e3⟩:=(kn x d hx).cells hl;have hc:=Chg.alloc w (.cells vs.toArray e (0,0)) (fun _=>False);have hst:Stay w (w.alloc (.cells vs.toArray e (0,0))) ok (fun m=>ok m∨m=w.heap.size):=(hr.stay0 hc).trans (sY fun _ h=>.inl h);refine⟨undef,.pointer (some ⟨w.heap.size,0,none⟩),w.alloc (.cells vs.toArray e (0,0)),fun m=>ok m∨m=w.heap.size,?_,hr.newOk hc (Nat.le_refl _) (by rw[uj]; omega),?_,hst⟩
 ·simp only[execOp,Instr.box,newVar,newRow,newObj];simp[Sem.run,e1]
 ·exact .nod (EncL.toC (vH w _) (.inr rfl) 0 (e2.mono hst) e3 (fun j v hv=>by simpa using hv))
theorem part_load {i:TI} {e:TypeId} (hi:lkT X.tab e=some i) {b off:Nat} {cells:Array Value} {bt:TypeId} {fr:Nat × Nat} (hb:w.heap[b]? = some (.cells cells bt fr)) {ds:List Dat} {vs:List Value} (he:EncL w ok ds vs) (h1:∀ v∈vs,one v=true)
 (hc:∀ j v,vs[j]? = some v→cells[off+j]? = some v) (hd:partD i ds=some d):∃ v,(loadVar e ⟨b,off,none⟩).run X.P w = .ok v w∧Enc w ok d v:=by
 have hp:=py hd he h1;have u2:=xm (X.tok _ _ hi) w;have u3:=rc (X.tok _ _ hi) w;have hl:=he.length;have hcell:∀ j v,vs[j]? = some v→w.cell? ((⟨b,off,none⟩:Addr).add j)=some v:=fun j v hv=>by
  rw[sa,cell_blk hb]; exact hc j v hv
 cases ha:i.isAgg with
 | true=>
  rw[ha] at hp u3;obtain⟨m,_,rfl,hle,he⟩:=hp;refine⟨_,?_,he⟩;have:=sc X.P (w:=w) (n:=i.size) (a:=⟨b,off,none⟩) (vs:=vs.take i.size) (by simp at hle ⊢; omega) (fun j v hv=>hcell j v (by
   rw[List.getElem?_take] at hv;split at hv
   ·exact hv
   ·cases hv))
  simp[loadVar,u3,u2,this]
 | false=>
  rw[ha] at hp u3;obtain⟨v,r,hv,he⟩:=hp;have h0:=hcell 0 v (by rw[hv]; rfl);rw[r7] at h0;exact⟨v,by simp[loadVar,u3,Go.load,Sem.run,h0],he⟩
theorem OwnOk.var_inv {b:Nat} {cs:List Dat} {e:TypeId} (h:OwnOk w ok (.var b cs e)):∃ vs:List Value,w.heap[b]? = some (.cells vs.toArray e (0,0))∧EncL w ok cs vs∧∀ v∈vs,one v=true:=by
 cases h with|var hb h h1=>exact⟨_,hb,h,h1⟩
theorem z7 {e:TypeId} {x:Operand} {i:TI} {b off:Nat} {cs:List Dat} {be:TypeId} (k:Nat) (hx:ev sl x=some (.val (.pointer (some ⟨b,off,none⟩)))) (hi:lkT X.tab e=some i) (hb:ow[k]? = some (.var b cs be))
 (hd:dropK off cs (fun r=>partD i r)=some d):OpR X (.load e x) sl ow (fun _=>d) (fun _=>ow):=.of_val fun G a w ok hr kn dst ty pos after g=>by
 have e1:=(kn x _ hx).val_inv.1;obtain⟨vs,e4,e5,e6⟩:=(hr.own k _ hb).var_inv;have h':=rA _ _ _ _ hd;obtain⟨v,h1,h2⟩:=part_load (X:=X) hi (off:=off) e4 (e5.drop off) (fun v hv=>e6 v (List.mem_of_mem_drop hv)) (fun j v hv=>by simpa using hv) h'.2;exact⟨undef,v,w,ok,by simp[execOp,Instr.loadAt,e1,Instr.sureAddr,h1],hr,h2,Stay.refl _ _⟩
theorem tF {P:Program} {b:Nat} {e:TypeId}:∀ (us:List Value) (w:World) (cells:Array Value) (off i:Nat),w.heap[b]? = some (.cells cells e (0,0))→(∀ u∈us,one u=true)→off+i+us.length≤cells.size →
 ∃ w' cells',(storeCells ⟨b,off,none⟩ us i).run P w = .ok () w'∧Chg w w' (· = b)∧w'.heap[b]? = some (.cells cells' e (0,0))∧cells'.toList=cells.toList.take (off+i)++us++cells.toList.drop (off+i+us.length)
 | [],w,cells,off,i,hb,_,hs=>⟨w,cells,by simp[storeCells],Chg.refl _ _,hb,by simp⟩
 | u::us,w,cells,off,i,hb,h1,hs=>by
  have hc:w.cell? ⟨b,off+i,none⟩=some (cells[off+i]'(by simp at hs; omega)):=by
   rw[cell_blk hb]; exact Array.getElem?_eq_getElem _
  have hf:w.frozen? ⟨b,off+i,none⟩=false:=by
   unfold World.frozen?; simp[hb]
  have hb':(w.setCell ⟨b,off+i,none⟩ u).heap[b]? = some (.cells (cells.setIfInBounds (off+i) u) e (0,0)):=by
   simp only[World.setCell,Array.getElem?_modify,if_true,hb,Option.map_some]; simp
  obtain⟨w',cells',h2,h3,h4,h5⟩:=tF (P:=P) us (w.setCell ⟨b,off+i,none⟩ u) (cells.setIfInBounds (off+i) u) off (i+1) hb' (fun v hv=>h1 v (List.mem_cons_of_mem _ hv)) (by simp at hs ⊢; omega);refine⟨w',cells',?_,(Chg.setCell w (p:=⟨b,off+i,none⟩) (touched:=(· = b)) u rfl).trans h3,h4,?_⟩
  ·have h1u:=h1 u List.mem_cons_self;cases u <;> simp[one] at h1u <;> simp[storeCells,store,Sem.run,sa,hc,hf,h2]
  ·rw[h5];have hlt:off+i<cells.toList.length:=by simp at hs ⊢; omega
   simp only[Array.toList_setIfInBounds];rw[List.take_set,List.drop_set];simp only[List.length_cons];rw[if_pos (by omega),show off+(i+1)=off+i+1 by omega,List.take_succ_eq_append_getElem hlt];rw[List.set_append_right _ _ (by simp; omega)];simp[Nat.min_eq_left (Nat.le_of_lt (by simpa using hlt))];congr 1; omega
theorem OpR.store {e:TypeId} {x y:Operand} {i:TI} {b off:Nat} {cs cs':List Dat} {be:TypeId} (k:Nat) (hx:ev sl x=some (.val (.pointer (some ⟨b,off,none⟩)))) (hy:ev sl y=some d) (hl:live d=true) (hi:lkT X.tab e=some i)
 (hb:ow[k]? = some (.var b cs be)) (hz:Nat.beq d.cells.length i.size=true) (hd:uQ off d.cells cs some=some cs') {ow':List Own} (ho:setK k (.var b cs' be) ow some=some ow') :
 OpR X (.store e x y) sl ow (fun _=>.dead) (fun _=>ow'):=.of_skip fun G a w ok hr kn dst ty pos after g=>by
 obtain rfl:=Option.some.inj (tS _ _ _ _ _ ho);have e1:=(kn x _ hx).val_inv.1;obtain⟨vs,e4,e5,e6⟩:=(hr.own k _ hb).var_inv;obtain⟨us,f1,f2,f3⟩:=(kn y _ hy).cells hl;have hs:=ra _ _ _ _ _ hd;have hs2:=Option.some.inj hs.2;have hl:=e5.length;have hl2:=f2.length;have hz':us.length=i.size:=hl2▸Nat.eq_of_beq_eq_true hz;obtain⟨w',cells',g1,g2,g3,g4⟩:=tF (P:=X.P) us w vs.toArray off 0 e4 f3 (by simp; omega);have u2:=xm (X.tok _ _ hi) w;have hw':cells'=(vs.take off++us++vs.drop (off+us.length)).toArray:=by
  apply Array.toList_inj.1; rw[g4]; simp
 subst hw';have g2':Chg w w' (fun m=>(Own.var b cs be).block=some m):=g2.imp fun m h=>h▸rfl;have hst:=hr.updStay hb g2';have henc:EncL w' ok cs' (vs.take off++us++vs.drop (off+us.length)):=by
  rw[← hs2,hl2];exact (((e5.take off).append f2).append (e5.drop _)).mono hst
 have h1':∀ v∈vs.take off++us++vs.drop (off+us.length),one v=true:=fun v hv=>by
  simp only[List.append_assoc,List.mem_append] at hv;rcases hv with hv|hv|hv
  ·exact e6 v (List.mem_of_mem_take hv)
  ·exact f3 v hv
  ·exact e6 v (List.mem_of_mem_drop hv)
 refine⟨w',ok,?_,hr.upd hb g2' (.var g3 henc h1') (fun m hm=>.inl hm),hst⟩;simp[execOp,Instr.storeAt,e1,Instr.sureAddr,storeVar,u2,f1,hz',g1]
def putK:List Nat→List Own→List Own→Option (List Own)
| [],os,ow=>some (ow++os)
| k::ks,o::os,ow=>putK ks os (ow.set k o)
| _::_,[],_=>none
def putC:List Nat→List Own→List Own→Option (List Own)
| [],[],ow=>some ow
| [],o::os,ow=>appK ow o fun l=>putC [] os l
| k::ks,o::os,ow=>setK k o ow fun l=>putC ks os l
| _::_,[],_=>none
theorem putC_eq:∀ {ks:List Nat} {os ow ow':List Own},putC ks os ow=some ow'→putK ks os ow=some ow'
 | [],[],ow,ow',h=>by simpa [putC,putK] using h
 | [],o::os,ow,ow',h=>by
  have h1:=putC_eq (rx _ _ _ _ (show appK ow o (fun l=>putC [] os l)=some ow' from h));simpa [putK] using h1
 | k::ks,o::os,ow,ow',h=>by
  simpa [putK] using putC_eq (tS _ _ _ _ _ (show setK k o ow (fun l=>putC ks os l)=some ow' from h))
 | _::_,[],_,_,h=>by simp[putC] at h
theorem putK_get:∀ {ks:List Nat} {os ow ow':List Own},putK ks os ow=some ow'→(∀ k∈ks,k<ow.length)→wS ks=true→∀ (j:Nat) (p:Own),ow'[j]? = some p →
 (∃ i,os[i]? = some p∧(ks[i]? = some j∨(ks.length≤i∧j=ow.length+(i-ks.length))))∨(j ∉ ks∧ow[j]? = some p)
 | [],os,ow,ow',h,hk,hn,j,p,hj=>by
  simp only[putK,Option.some.injEq] at h; subst h;rcases Nat.lt_or_ge j ow.length with h'|h'
  ·rw[List.getElem?_append_left h'] at hj; exact .inr ⟨by simp,hj⟩
  ·rw[List.getElem?_append_right h'] at hj; exact .inl ⟨j-ow.length,hj,.inr ⟨Nat.zero_le _,by simp; omega⟩⟩
 | k::ks,o::os,ow,ow',h,hk,hn,j,p,hj=>by
  simp only[putK] at h;simp only[wS,Bool.and_eq_true,Bool.not_eq_true',List.any_eq_false] at hn;have hnk:k ∉ ks:=fun hm=>by have:=hn.1 k hm; simp at this
  rcases putK_get h (fun m hm=>by rw[List.length_set]; exact hk m (List.mem_cons_of_mem _ hm)) hn.2 j p hj with ⟨i,h1,h2⟩|⟨h1,h2⟩
  ·refine .inl ⟨i+1,by simpa using h1,?_⟩;rcases h2 with h2|⟨h2,h3⟩
   ·exact .inl (by simpa using h2)
   ·rw[List.length_set] at h3;exact .inr ⟨by simpa using h2,by simp; omega⟩
  ·by_cases e:k=j
   ·subst e;rw[List.getElem?_set_self (hk k List.mem_cons_self)] at h2;exact .inl ⟨0,by simpa using h2,.inl rfl⟩
   ·rw[List.getElem?_set_ne e] at h2;exact .inr ⟨by simp[Ne.symm e,h1],h2⟩
 | k::ks,[],ow,ow',h,hk,hn,j,p,hj=>by simp[putK] at h
theorem pickK_lt:∀ {ks:List Nat} {ow os:List Own},uC ks ow=some os→∀ k∈ks,k<ow.length
 | [],_,_,_,k,hk=>by simp at hk
 | j::ks,ow,os,h,k,hk=>by
  simp only[uC] at h;split at h
  ·rename_i o r h1 h2;rcases List.mem_cons.1 hk with rfl|hk
   ·exact (List.getElem?_eq_some_iff.1 h1).1
   ·exact pickK_lt h2 k hk
  ·cases h
theorem RepB.start {G:Gh} (hr:RepB G ow w ok) {ks:List Nat} {os:List Own} (hp:uC ks ow=some os) (hn:wS ks=true):RepB (Gh.of w os ok) os w ok:=by
 have h:=hr.pick hp hn;exact { own:=h.own,inj:=h.inj,okf:=h.okf,blt:=fun k o b hk hb=>⟨(h.blt k o b hk hb).1,.inr ⟨o,List.mem_of_getElem? hk,hb⟩⟩,prot:=fun _ _ _=>rfl,gsz:=Nat.le_refl _,os:=rfl,out:=rfl,tape:=rfl,ok0:=fun _ h=>h,org:=fun _ h=>.inl h,gl:=h.gl }
theorem RepB.behind {G:Gh} (hr:RepB G ow w ok) {ks:List Nat} {os:List Own} (hp:uC ks ow=some os) (hn:wS ks=true) {os':List Own} {w':World} {ok':Nat→Prop} (h:RepB (Gh.of w os ok) os' w' ok') {ow':List Own} (hq:putK ks os' ow=some ow') :
 RepB G ow' w' ok'∧Stay w w' ok ok':=by
 have hown:∀ {b:Nat},b<w.heap.size→(∃ o∈os,o.block=some b)→∃ k o,k∈ks∧ow[k]? = some o∧o.block=some b:=fun {b} _ ⟨o,ho,hb⟩=>by
  obtain⟨i,hi⟩:=List.mem_iff_getElem?.1 ho;obtain⟨k,h1,h2⟩:=uV hp i o hi;exact⟨k,o,List.mem_of_getElem? h1,h2,hb⟩
 have hst:Stay w w' ok ok':=⟨h.ok0,fun b hb=>h.prot b (hr.okf b hb).1 (fun hx=>by
  obtain⟨k,o,_,h2,h3⟩:=hown (hr.okf b hb).1 hx;exact (hr.okf b hb).2 k o h2 h3)⟩
 have hkeep:∀ {j:Nat} {p:Own} {b:Nat},j ∉ ks→ow[j]? = some p→p.block=some b→¬ ∃ o∈os,o.block=some b:=fun {j p b} hj hp' hb hx=>by
  obtain⟨k,o,h1,h2,h3⟩:=hown (hr.blt j p b hp' hb).1 hx;exact hj (hr.inj j k p o b hp' h2 hb h3▸h1)
 have hg:=putK_get hq (pickK_lt hp) hn;refine⟨{ own:=fun j p hj=>?_,inj:=fun i j p q b h1 h2 b1 b2=>?_,okf:=fun b hb=>⟨(h.okf b hb).1,fun j p hj hpb=>?_⟩,blt:=fun j p b hj hpb=>?_,prot:=fun b hb ho=>?_,gsz:=Nat.le_trans hr.gsz h.gsz,os:=h.os.trans hr.os,out:=h.out.trans hr.out,tape:=h.tape.trans hr.tape,ok0:=fun b hb=>h.ok0 b (hr.ok0 b hb),org:=fun b hb=>?_,gl:=h.gl },hst⟩
 ·rcases hg j p hj with ⟨i,h1,_⟩|⟨h1,h2⟩
  ·exact h.own i p h1
  ·exact (hr.own j p h2).mono hst (fun m hm=>h.prot m (hr.blt j p m h2 hm).1 (hkeep h1 h2 hm))
 ·rcases hg i p h1 with ⟨i',e1,f1⟩|⟨e1,f1⟩ <;> rcases hg j q h2 with ⟨j',e2,f2⟩|⟨e2,f2⟩
  ·have hij:=h.inj i' j' p q b e1 e2 b1 b2;subst hij;rcases f1 with f1|⟨f1,g1⟩ <;> rcases f2 with f2|⟨f2,g2⟩
   ·rw[f1] at f2; exact Option.some.inj f2
   ·have:=(List.getElem?_eq_some_iff.1 f1).1; omega
   ·have:=(List.getElem?_eq_some_iff.1 f2).1; omega
   ·omega
  ·rcases (h.blt i' p b e1 b1).2 with h3|h3
   ·have:=(hr.blt j q b f2 b2).1;have h3':w.heap.size≤b:=h3;omega
   ·exact absurd h3 (hkeep e2 f2 b2)
  ·rcases (h.blt j' q b e2 b2).2 with h3|h3
   ·have:=(hr.blt i p b f1 b1).1;have h3':w.heap.size≤b:=h3;omega
   ·exact absurd h3 (hkeep e1 f1 b1)
  ·exact hr.inj i j p q b f1 f2 b1 b2
 ·rcases hg j p hj with ⟨i,h1,_⟩|⟨h1,h2⟩
  ·exact (h.okf b hb).2 i p h1 hpb
  ·rcases h.org b hb with h3|h3|h3
   ·exact (hr.okf b h3).2 j p h2 hpb
   ·have:=(hr.blt j p b h2 hpb).1;have h3':w.heap.size≤b:=h3;omega
   ·exact hkeep h1 h2 hpb h3
 ·rcases hg j p hj with ⟨i,h1,_⟩|⟨h1,h2⟩
  ·refine⟨(h.blt i p b h1 hpb).1,?_⟩;rcases (h.blt i p b h1 hpb).2 with h3|h3
   ·exact .inl (Nat.le_trans hr.gsz h3)
   ·obtain⟨o,ho,hob⟩:=h3;obtain⟨i2,hi2⟩:=List.mem_iff_getElem?.1 ho;obtain⟨k,_,h5⟩:=uV hp i2 o hi2;exact (hr.blt k o b h5 hob).2
  ·exact⟨Nat.lt_of_lt_of_le (hr.blt j p b h2 hpb).1 h.gsz,(hr.blt j p b h2 hpb).2⟩
 ·refine (h.prot b (Nat.lt_of_lt_of_le hb hr.gsz) (fun hx=>?_)).trans (hr.prot b hb ho);obtain⟨k,o,_,h2,h3⟩:=hown (Nat.lt_of_lt_of_le hb hr.gsz) hx;rcases (hr.blt k o b h2 h3).2 with h4|h4
  ·omega
  ·exact ho h4
 ·rcases h.org b hb with h3|h3|⟨o,ho,hob⟩
  ·exact hr.org b h3
  ·exact .inr (.inl (Nat.le_trans hr.gsz h3))
  ·obtain⟨i2,hi2⟩:=List.mem_iff_getElem?.1 ho;obtain⟨k,_,h5⟩:=uV hp i2 o hi2;exact .inr (hr.blt k o b h5 hob).2
def yL (X:Prg) (f:FuncId):Prop:=∃ fn,X.P.funcs[f]? = some fn∧(fn.name == "runtime.NumGoroutine")=false∧fn.body.isSome=true
def zn (X:Prg) (f:FuncId) (args:List Dat) (ow:List Own) (d:Value→Dat) (ow':Value→List Own):Prop:=CallT X.P f args ow fun r o=>∃ x,r=d x∧o=ow' x
theorem ux {c:Operand} {f:FuncId} {as:Array Operand} {ats:Array TypeId} {ds cs:List Dat} {d:Value→Dat} {os:List Own} {os' ow':Value→List Own} (ks:List Nat) (hc:ev sl c=some (.fn (.func f) [] cs)) (hfn:yL X f) {es:List Dat} (h:zn X f es os d os')
 (ha:evs sl as.toList=some ds) (hp:uC ks ow=some os) (hn:wS ks=true) (hq:∀ x,putC ks (os' x) ow=some (ow' x)) (hes:ds++cs=es:=by rfl) :
 OpR X (.call { callee:=.value c,args:=as,argTypes:=ats }) sl ow d ow':=fun G a w ok hr kn o ho K Qm hK=>by
 subst hes;obtain⟨dst,op',ty,pos,after,g⟩:=o;dsimp only at ho; subst ho;obtain⟨vs0,us,e1,e2,e3⟩:=(kn c _ hc).fn_inv;cases e2;have he:=(evs_enc kn ha).append e3;obtain⟨fn,hf,hname,hb⟩:=hfn;have h1:fn.name ≠ "runtime.NumGoroutine":=by simpa using hname
 obtain⟨cb,hcb⟩:=Option.isSome_iff_exists.1 hb;have hrun:(execOp a.eval { dst:=dst,op:=.call { callee:=.value c,args:=as,argTypes:=ats },type:=ty,pos:=pos,after:=after,guard:=g }).run X.P w = .ok (.enter f ((as.toList.map a.eval)++us).toArray) w:=by
  have g0:as.map a.eval=(as.toList.map a.eval).toArray:=by apply Array.toList_inj.1; simp
  simp[execOp,resolve,e1,Deferred.ofValue,invoke,callFunc,hf,h1,hcb,g0]
 refine vA hrun (fun d h=>by cases h) ?_;rw[Oper.upon_enter];refine (h w _ ok (hr.start hp hn) he).mono fun e w' ⟨v,r,o',ok',g1,g2,g3,x,g4,g5⟩=>?_;subst g1 g4 g5;obtain⟨g6,g7⟩:=hr.behind hp hn g2 (putC_eq (hq x));exact hK x v w' ok' g6 g3 g7
theorem OpR.call {f:FuncId} {as:Array Operand} {ats:Array TypeId} {ds:List Dat} {d:Value→Dat} {os:List Own} {os' ow':Value→List Own} (ks:List Nat) (hfn:yL X f) (h:zn X f ds os d os')
 (ha:evs sl as.toList=some ds) (hp:uC ks ow=some os) (hn:wS ks=true) (hq:∀ x,putC ks (os' x) ow=some (ow' x)) :
 OpR X (.call { callee:=.value (.func f),args:=as,argTypes:=ats }) sl ow d ow':=
 ux (cs:=[]) ks rfl hfn h ha hp hn hq (List.append_nil _)
theorem putNil (ow:List Own):putC [] [] ow=some ow:=rfl
theorem zf {f:FuncId} {as:Array Operand} {ats:Array TypeId} {ds:List Dat} {r:Dat} (hfn:yL X f) (h:zn X f ds [] (fun _=>r) (fun _=>[])) (ha:evs sl as.toList=some ds) :
 OpR X (.call { callee:=.value (.func f),args:=as,argTypes:=ats }) sl ow (fun _=>r) (fun _=>ow):=OpR.call [] hfn h ha rfl rfl (fun _=>putNil ow)
def idxK:Nat→List Dat→List (Nat × Dat)→Option (List (Nat × Dat))
| _,[],acc=>some acc
| i,d::ds,acc=>idxK (i+1) ds ((i,d)::acc)
theorem idxK_lk:∀ (ds:List Dat) (i:Nat) (acc sl:List (Nat × Dat)),idxK i ds acc=some sl→∀ t d,lk sl t=some d→lk acc t=some d∨(i≤t∧ds[t-i]? = some d)
 | [],i,acc,sl,h,t,d,hl=>by
  simp only[idxK,Option.some.injEq] at h; subst h; exact .inl hl
 | e::ds,i,acc,sl,h,t,d,hl=>by
  rcases idxK_lk ds (i+1) _ sl h t d hl with h1|⟨h1,h2⟩
  ·rw[sq] at h1;split at h1
   ·rename_i e'; subst e'; exact .inr ⟨Nat.le_refl _,by simpa using h1⟩
   ·exact .inl h1
  ·refine .inr ⟨by omega,?_⟩;rw[show t-i=(t-(i+1))+1 by omega]; simpa using h2
inductive ResV (X:Prg) (S:St):ResultVar→Dat→Prop
  | tmp {t:Nat} {d:Dat} (h:lk S.sl t=some d):ResV X S (.tmp t) d
  | imm {a:Nat} {t:TypeId} {i:TI} {cs:List Dat} {d:Dat} (hi:lkT X.tab t=some i) (ha:lk S.sl a=some (.nod cs)) (hd:partD i cs=some d):ResV X S (.cell a t) d
  | var {a b off:Nat} {t be:TypeId} {i:TI} {cs:List Dat} {d:Dat} (k:Nat) (hi:lkT X.tab t=some i) (ha:lk S.sl a=some (.val (.pointer (some ⟨b,off,none⟩)))) (hb:S.ow[k]? = some (.var b cs be)) (hd:dropK off cs (fun r=>partD i r)=some d):ResV X S (.cell a t) d
inductive ResL (X:Prg) (S:St):List ResultVar→List Dat→Prop
  | nil:ResL X S [] []
  | cons {r:ResultVar} {rs:List ResultVar} {d:Dat} {ds:List Dat} (h:ResV X S r d) (hr:ResL X S rs ds):ResL X S (r::rs) (d::ds)
def pack:List Dat→Dat
| [d]=>d
| ds=>.tup ds
def Post (X:Prg) (rs:List ResultVar) (Q:Dat→List Own→Prop):Exit→St→Prop
| .normal,S | .ret,S=>∃ ds,ResL X S rs ds∧Q (pack ds) S.ow
| _,_=>False
def resRun (tmps:Array Value):ResultVar→Sem Value
 | .tmp t=>pure (tmps.getD t undef)
 | .cell a t=>do loadVar t (← asAddr (tmps.getD a undef))
theorem results_eq (fn:Func) (tmps:Array Value):results fn tmps=(do
 let vs ← fn.results.mapM (resRun tmps)
 pure (if h:vs.size=1 then vs[0] else .tuple vs)):=by
 unfold results;congr 1
theorem resV_run {G:Gh} {S:St} {a:Act} (hr:Rep G S a w ok) {r:ResultVar} {d:Dat} (h:ResV X S r d):∃ v,(resRun a.tmps r).run X.P w = .ok v w∧Enc w ok d v:=by
 cases h with
 | tmp h=>exact⟨_,rfl,(hr.sl _ _ h).2⟩
 | imm hi ha hd=>
  obtain⟨q,e1,e2⟩:=(hr.sl _ _ ha).2.nod_inv;obtain⟨vs,e3,e4,e5⟩:=e2.loads;have hp:=py hd e3 e4;rename_i e i cs;have u2:=xm (X.tok _ _ hi) w;have u3:=rc (X.tok _ _ hi) w;cases ha':i.isAgg with
  | true=>
   rw[ha'] at hp u3;obtain⟨m,_,rfl,hle,he⟩:=hp;have hl:=e3.length;refine⟨_,?_,he⟩;have:=sc X.P (w:=w) (n:=i.size) (a:=q) (vs:=vs.take i.size) (by rw[List.length_take]; omega) (fun j v hv=>e5 j v (by
    rw[List.getElem?_take] at hv;split at hv
    ·exact hv
    ·cases hv))
   simp[resRun,e1,asAddr,loadVar,u3,u2,this]
  | false=>
   rw[ha'] at hp u3;obtain⟨v,r,rfl,he⟩:=hp;have h0:=e5 0 v rfl;rw[r7] at h0;exact⟨v,by simp[resRun,e1,asAddr,loadVar,u3,Go.load,Sem.run,h0],he⟩
 | var k hi ha hb hd=>
  have e1:=(hr.sl _ _ ha).2.val_inv.1;obtain⟨vs,e4,e5,e6⟩:=(hr.own k _ hb).var_inv;have h':=rA _ _ _ _ hd;obtain⟨v,h1,h2⟩:=part_load (X:=X) hi e4 (e5.drop _) (fun v hv=>e6 v (List.mem_of_mem_drop hv)) (fun j v hv=>by simpa using hv) h'.2;exact⟨v,by simp[resRun,e1,asAddr,h1],h2⟩
theorem resMap_run {G:Gh} {S:St} {a:Act} (hr:Rep G S a w ok):∀ {rs:List ResultVar} {ds:List Dat},ResL X S rs ds→∃ vs:List Value,(rs.mapM (resRun a.tmps)).run X.P w = .ok vs w∧EncL w ok ds vs
 | _,_,.nil=>⟨[],by simp,.nil⟩
 | _,_,.cons h h'=>by
  obtain⟨v,h3,h4⟩:=resV_run hr h;obtain⟨vs,h5,h6⟩:=resMap_run hr h';exact⟨v::vs,by simp[List.mapM_cons,h3,h5],.cons h4 h6⟩
theorem pd {G:Gh} {S:St} {a:Act} (hr:Rep G S a w ok) {fn:Func} {rs:List ResultVar} (hrs:fn.results=rs.toArray) {ds:List Dat} (h:ResL X S rs ds):∃ v,(results fn a.tmps).run X.P w = .ok v w∧Enc w ok (pack ds) v:=by
 obtain⟨vs,h1,h2⟩:=resMap_run hr h;rw[results_eq,hrs];cases h2 with
 | nil=>exact⟨.tuple #[],by simp[h1],.tup .nil⟩
 | cons hd hr2=>
  cases hr2 with
  | nil=>exact⟨_,by simp[h1],hd⟩
  | cons hd2 hr3=>exact⟨.tuple (_::_::_).toArray,by simp[h1],.tup (.cons hd (.cons hd2 hr3))⟩
theorem Rep.take {G:Gh} {S:St} {a:Act} {D:Nat} {ds:List Deferred} (hr:Rep G S a w ok) (hd:a.defers=mark D::ds):(Instr.takeDeferred D).run X.P w = .ok [] (w.putObj D (.deferred none))∧Rep G S { a with defers:=ds } (w.putObj D (.deferred none)) ok:=by
 obtain⟨Ds,h1,h2,h3⟩:=hr.hd;rw[hd] at h1;cases Ds with
 | nil=>cases h1
 | cons D' Ds=>
  simp only[List.map_cons,List.cons.injEq] at h1;obtain⟨e1,e2⟩:=h1;obtain rfl:D=D':=by unfold mark at e1; simpa using e1
  obtain⟨o1,o2,o3⟩:=h3 D List.mem_cons_self;have keep:∀ b,b≠D→(w.putObj D (.deferred none)).heap[b]? = w.heap[b]?:=fun b hb=>World.putObj_heap_other hb;have hc:StayC w (w.putObj D (.deferred none)) ok ok:=⟨fun _ h=>h,fun p v hb hv=>by
   rw[← hv];refine cell?_congr (keep _ fun e=>?_);unfold World.cell? at hv;rw[e,o3] at hv; simp at hv⟩
  have hs:∀ b,(∃ (k:Nat) (o:Own),S.ow[k]? = some o∧o.block=some b)→(w.putObj D (.deferred none)).heap[b]? = w.heap[b]?:=fun b ⟨k,o,hk,hb⟩=>keep b fun e=>(hr.okf D o1).2 k o hk (by rw[hb,e]);refine⟨run_takeDeferred o3,{ own:=fun k o hk=>?_,inj:=hr.inj,okf:=fun b hb=>⟨by rw[World.putObj_size]; exact (hr.okf b hb).1,(hr.okf b hb).2⟩,blt:=fun k o b hk hb=>⟨by rw[World.putObj_size]; exact (hr.blt k o b hk hb).1,(hr.blt k o b hk hb).2⟩,prot:=fun b hb ho=>(keep b (by omega)).trans (hr.prot b hb ho),gsz:=by rw[World.putObj_size]; exact hr.gsz,os:=hr.os,out:=hr.out,tape:=hr.tape,ok0:=hr.ok0,org:=hr.org,gl:=hr.gl.monoC hc,hd:=⟨Ds,e2,(List.nodup_cons.1 h2).2,fun D' hD'=>?_⟩,hs:=hr.hs,sl:=fun t d ht=>⟨(hr.sl t d ht).1,(hr.sl t d ht).2.monoC hc⟩ }⟩
  ·have h0:=hr.own k o hk;have hb0:∀ n,o.block=some n→(w.putObj D (.deferred none)).heap[n]? = w.heap[n]?:=fun n hn=>hs n ⟨k,o,hk,hn⟩;cases h0 with
   | var hb h h1=>exact .var ((hb0 _ rfl).trans hb) (h.monoC hc) h1
   | nil=>exact .nil
   | row hn hc' hm hb hz h h1 hs=>exact .row hn hc' hm ((hb0 _ rfl).trans hb) hz (h.monoC hc) h1 hs
   | lp hb hn hs=>exact .lp ((hb0 _ rfl).trans hb) hn (fun t d h=>⟨(hs t d h).1,(hs t d h).2.monoC hc⟩)
   | sit hb=>exact .sit ((hb0 _ rfl).trans hb)
   | bld hp hb h1=>exact .bld hp ((hb0 _ rfl).trans hb) h1
   | gone=>exact .gone
  ·have hne:D'≠D:=fun e=>(List.nodup_cons.1 h2).1 (e▸hD');obtain⟨p1,p2,p3⟩:=h3 D' (List.mem_cons_of_mem _ hD');exact⟨p1,p2,(keep D' hne).trans p3⟩
theorem leave_marks {G:Gh} {fn:Func} {R:Ending→World→Prop} {S:St}:∀ (Ds:List Nat) (a:Act) (w:World) (ok:Nat→Prop),Rep G S a w ok→a.defers=Ds.map mark→(∀ a' w' ok',Rep G S a' w' ok'→a'.tmps=a.tmps→∃ v,(results fn a'.tmps).run X.P w' = .ok v w'∧R (.returned v) w')→LeavesInM Fence.wide 0 X.P fn a.tmps R a.defers .returning w
 | [],a,w,ok,hr,hd,h=>by
  rw[hd];obtain⟨v,h1,h2⟩:=h a w ok hr rfl;exact⟨v,h1,h2⟩
 | D::Ds,a,w,ok,hr,hd,h=>by
  have h1:=hr.take (X:=X) hd;have h2:=leave_marks Ds _ _ ok h1.2 rfl h;rw[hd];exact⟨fun e=>(by cases e),.inl ⟨D,_,rfl,h1.1,h2⟩⟩
theorem callT_of_wp (hx:X.rd=none) {f:FuncId} {fn:Func} {c:Code} {vs:List Value} {Q:Exit→St→Prop} {R:Dat→List Own→Prop} (hf:X.P.funcs[f]? = some fn) (hb:fn.body=some c) (hr0:RepB (Gh.of w ow ok) ow w ok)
 (h:c.wpIn X.F 0 X.P (Lift (Gh.of w ow ok) Q) { tmps:=vs.toArray++Array.replicate (fn.ntmps-vs.toArray.size) undef,defers:=[] } w)
 (hq:∀ e S',Q e S'→(e = .normal∨e = .ret)∧∀ a' w' ok',Rep (Gh.of w ow ok) S' a' w' ok'→∃ v,(results fn a'.tmps).run X.P w' = .ok v w'∧∃ r ow' ok'',RepB (Gh.of w ow ok) ow' w' ok''∧Enc w' ok'' r v∧R r ow') :
 Calls X.P f vs.toArray w fun e w'=>∃ v r ow' ok',e = .returned v∧RepB (Gh.of w ow ok) ow' w' ok'∧Enc w' ok' r v∧R r ow':=by
 rw[Prg.F_wide hx] at h;refine (callsIn_wide (n:=0)).1 (callsIn_of_wp_marks hf hb trivial (wpIn_mono h fun e a' w' ⟨S',ok',h1,h2⟩=>?_));obtain⟨he,h3⟩:=hq e S' h2;obtain⟨Ds,d1,_,_⟩:=h1.hd;have fin:=leave_marks (X:=X) (fn:=fn) (R:=fun e w'=>∃ v r ow' ok',e = .returned v∧RepB (Gh.of w ow ok) ow' w' ok'∧Enc w' ok' r v∧R r ow') Ds a' w' ok' h1 d1 (fun a2 w2 ok2 h4 _=>by
  obtain⟨v,g1,r,o,ok3,g2,g3,g4⟩:=h3 a2 w2 ok2 h4;exact⟨v,g1,v,r,o,ok3,rfl,g2,g3,g4⟩)
 rcases he with rfl|rfl <;> exact fin
theorem CallT.mk (hx:X.rd=none) {f:FuncId} {fn:Func} {c:Code} {args:List Dat} {R:Dat→List Own→Prop} (hf:X.P.funcs[f]? = some fn) (hb:fn.body=some c) {rs:List ResultVar} (hrs:fn.results=rs.toArray) {m:Nat} (hn:fn.ntmps=m)
 (ha:Nat.ble args.length m=true) {sl:List (Nat × Dat)} (hsl:idxK 0 args []=some sl) (h:T X c ⟨sl,ow,m⟩ (Post X rs R)):CallT X.P f args ow R:=by
 intro w vs ok hr he;have ha':args.length≤m:=Nat.le_of_ble_eq_true ha;have hl:=he.length;refine callT_of_wp hx hf hb hr (h (Gh.of w ow ok) _ w ok { hr with hd:=.none rfl,hs:=?_,sl:=?_ }) ?_
 ·simp[hn]; omega
 ·intro t d ht;rcases idxK_lk args 0 [] sl hsl t d ht with h1|⟨_,h1⟩
  ·simp[lk] at h1
  ·obtain⟨v,h2,h3⟩:=he.get _ h1;have hlt:t<vs.length:=by
    have:=(List.getElem?_eq_some_iff.1 h2).1; simpa using this
   refine⟨?_,?_⟩
   ·show t<m;omega
   ·have:(vs.toArray++Array.replicate (fn.ntmps-vs.toArray.size) undef).getD t undef=v:=by
     rw[Array.getD_eq_getD_getElem?,Array.getElem?_append_left (by simpa using hlt)];simp only[Nat.sub_zero] at h2;simp[h2]
    rw[this]; exact h3
 ·intro e S' h2;cases e <;> simp only[Post] at h2
  case normal=>
   obtain⟨ds,h3,h4⟩:=h2;exact⟨.inl rfl,fun a w ok h1=>by
    obtain⟨v,h5,h6⟩:=pd h1 hrs h3;exact⟨v,h5,_,_,ok,h1.toRepB,h6,h4⟩⟩
  case ret=>
   obtain⟨ds,h3,h4⟩:=h2;exact⟨.inr rfl,fun a w ok h1=>by
    obtain⟨v,h5,h6⟩:=pd h1 hrs h3;exact⟨v,h5,_,_,ok,h1.toRepB,h6,h4⟩⟩
theorem zn.mk (hx:X.rd=none) {f:FuncId} {fn:Func} {c:Code} {args:List Dat} {d:Value→Dat} {ow':Value→List Own} (hf:X.P.funcs[f]? = some fn) (hb:fn.body=some c) {rs:List ResultVar} (hrs:fn.results=rs.toArray) {m:Nat} (hn:fn.ntmps=m)
 (ha:Nat.ble args.length m=true) {sl:List (Nat × Dat)} (hsl:idxK 0 args []=some sl) (h:T X c ⟨sl,ow,m⟩ (Post X rs fun r o=>∃ x,r=d x∧o=ow' x)):zn X f args ow d ow':=CallT.mk hx hf hb hrs hn ha hsl h
theorem Post.ret {rs:List ResultVar} {d:Value→Dat} {ow':Value→List Own} {S:St} {ds:List Dat} (x:Value) (h:ResL X S rs ds) (h1:pack ds=d x) (h2:S.ow=ow' x):Post X rs (fun r o=>∃ x,r=d x∧o=ow' x) .ret S:=⟨ds,h,x,h1,h2⟩
theorem Post.fin {rs:List ResultVar} {d:Value→Dat} {ow':Value→List Own} {S:St} {ds:List Dat} (x:Value) (h:ResL X S rs ds) (h1:pack ds=d x) (h2:S.ow=ow' x):Post X rs (fun r o=>∃ x,r=d x∧o=ow' x) .normal S:=⟨ds,h,x,h1,h2⟩
end
end Go.Sm
