import Derived.Test.YtpmhiiemklhbhaaGreatS9
import Derived.Laws.StructEq
import Derived.KernelRfl
set_option linter.unusedVariables false
namespace Go.Sm
section
variable {X:Prg} {sl:List (Nat × Dat)} {ow:List Own} {w:World} {ok:Nat→Prop}
def eqLeaf:TypeDesc→Dat→Dat→Option Bool
| .int _,.val (.int k x),.val (.int k' y)=>if k=k' then some (x==y) else none
| .bool,.val (.bool x),.val (.bool y)=>some (x==y)
| .string,.val (.string x),.val (.string y)=>some (x.toList==y.toList)
| _,_,_=>none
def eqFs (tt:TypeId→Option TI):List Field→List Dat→List Dat→Option Bool
 | [],_,_=>some true
 | f::fs,xs,ys=>match f.name == "_",tt f.type,xs[f.offset]?,ys[f.offset]? with
  | false,some i,some x,some y=>match i.isAgg,eqLeaf i.desc x y,eqFs tt fs xs ys with
   | false,some b,some r=>some (b&&r)
   | _,_,_=>none
  | _,_,_,_=>none
theorem eqFs_run {d:Nat} {vs us:List Value}:∀ {fs:List Field} {cs ds:List Dat} {b:Bool},eqFs (lkT X.tab) fs cs ds=some b→EncL w ok cs vs→EncL w ok ds us→(Op.eqFields (d+1) vs.toArray us.toArray fs).run X.P w = .ok b w
 | [],cs,ds,b,h,_,_=>by simp only[eqFs,Option.some.injEq] at h; subst h; simp[Op.eqFields]
 | f::fs,cs,ds,b,h,h1,h2=>by
  simp only[eqFs] at h;split at h
  ·rename_i i x y hn hi hx hy;split at h
   ·rename_i b0 r ha hb hr;obtain rfl:=Option.some.inj h;obtain⟨v,hv,ev⟩:=h1.get _ hx;obtain⟨u,hu,eu⟩:=h2.get _ hy;have u1:=(X.tok _ _ hi).desc;have u3:=rc (X.tok _ _ hi) w;have p1:(part f.type vs.toArray f.offset).run X.P w = .ok v w:=by simp[part,u3,ha,hv]
    have p2:(part f.type us.toArray f.offset).run X.P w = .ok u w:=by simp[part,u3,ha,hu]
    have hne:f.name ≠ "_":=by simpa using hn
    have he:(Op.equalIn (d+1) f.type v u).run X.P w = .ok b0 w:=by
     unfold eqLeaf at hb;split at hb
     ·rename_i hd;split at hb
      ·rename_i hk; subst hk;obtain rfl:=Option.some.inj hb;obtain rfl:=ev.val_inv.1;obtain rfl:=eu.val_inv.1;rw[hd] at u1;exact run_equalIn_int w d _ _ _ _ _ u1
      ·cases hb
     ·rename_i hd;obtain rfl:=Option.some.inj hb;obtain rfl:=ev.val_inv.1;obtain rfl:=eu.val_inv.1;rw[hd] at u1;exact Go.run_equalIn_bool w d _ _ _ u1
     ·rename_i hd;obtain rfl:=Option.some.inj hb;obtain rfl:=ev.val_inv.1;obtain rfl:=eu.val_inv.1;rw[hd] at u1;exact run_equalIn_string w d _ _ _ u1
     ·cases hb
    have ih:=eqFs_run (d:=d) hr h1 h2;unfold Op.eqFields;rw[if_pos hne];cases b0 <;> simp[p1,p2,he,ih]
   ·cases h
  ·cases h
theorem eqStruct_run {st:TypeId} {i:TI} {fields:Array Field} {cs ds:List Dat} {b:Bool} (hi:lkT X.tab st=some i) (hd:i.desc = .struct fields) (h:eqFs (lkT X.tab) fields.toList cs ds=some b) (hp:X.P.stoodInHeld st=false)
 {vs us:List Value} (h1:EncL w ok cs vs) (h2:EncL w ok ds us):(Op.equal st (.agg vs.toArray) (.agg us.toArray)).run X.P w = .ok b w:=by
 have u1:=(X.tok _ _ hi).desc;rw[hd] at u1;have hf:X.P.fieldsOf st=fields:=by unfold Program.fieldsOf; rw[u1]
 have hr:=run_equalIn_struct (P:=X.P) w 9999 st vs.toArray us.toArray (by rw[hf]; exact u1) hp;rw[hf] at hr;exact hr.trans (eqFs_run (d:=9998) h h1 h2)
theorem OpR.neStruct {st yt:TypeId} {x y:Operand} {i:TI} {fields:Array Field} {cs ds:List Dat} {b:Bool} (hi:lkT X.tab st=some i) (hd:i.desc = .struct fields) (hx:ev sl x=some (.agg cs)) (hy:ev sl y=some (.agg ds)) (h:eqFs (lkT X.tab) fields.toList cs ds=some b)
 (hp:X.P.stoodInHeld st=false) (hg:X.P.eqGuardType X.P.depth st=false):OpR X (.binOp .neq st x y yt) sl ow (fun _=>.val (.bool !b)) (fun _=>ow):=.of_run fun a w ok kn dst ty pos after g=>by
 obtain⟨vs,ex,_,h1⟩:=(kn x _ hx).agg_inv;obtain⟨us,ey,_,h2⟩:=(kn y _ hy).agg_inv;have hr:=eqStruct_run (w:=w) hi hd h hp h1 h2;have hgr:(eqGuard .neq st x y (.agg vs.toArray) (.agg us.toArray)).run X.P w = .ok () w:=by
  unfold eqGuard; simp[program,Sem.run,hg]
 exact⟨.bool !b,by simp[execOp,ex,ey,hgr,binOp,hr],.val rfl⟩
theorem OpR.markRow {t1:TypeId} {x:Operand} {i ie:TI} {e:TypeId} {v:Value} {l:List Dat} (k:Nat) (hi:lkT X.tab t1=some i) (hd:i.desc = .slice e) (hie:lkT X.tab e=some ie) (hde:ie.desc = .int .u8) (hx:ev sl x=some (.val v)) (hb:ow[k]? = some (.row v l 1 e)) (hne:Nat.blt 0 l.length=true)
 {ow':List Own} (ho:setK k .gone ow some=some ow'):OpR X (.convert t1 t1 x) sl ow (fun _=>.sl 1 l) (fun _=>ow'):=.of_val fun G a w ok hr kn dst ty pos after g=>by
 obtain rfl:=Option.some.inj (tS _ _ _ _ _ ho);have ex:=(kn x _ hx).val_inv.1;have u1:=zL (X.tok _ _ hi) w;have u2:=zL (X.tok _ _ hie) w;rw[hd] at u1; rw[hde] at u2;rcases (hr.own k _ hb).row_inv with ⟨rfl,rfl⟩|⟨b,c,vs,us,rfl,hc,hm,hh,hz,he,h1,hs⟩
 ·simp at hne
 ·let C:Array Value:=(vs++us).toArray
  let w':=w.freeze ⟨b,C.size,none⟩ 1
  have hsh:w.shape? b=some (e,C.size):=by unfold World.shape?; rw[hh]
  have hw':w'.heap[b]? = some (.cells C e (C.size,C.size+1)):=by
   show (World.freeze w ⟨b,C.size,none⟩ 1).heap[b]? = _;unfold World.freeze;rw[if_neg (by decide)];simp only[Array.getElem?_modify,if_true,hh,Option.map_some];rfl
  have hkeep:∀ m,m≠b→w'.heap[m]? = w.heap[m]?:=fun m hm=>by
   show (World.freeze w ⟨b,C.size,none⟩ 1).heap[m]? = _;unfold World.freeze;rw[if_neg (by decide)];simp only[Array.getElem?_modify,if_neg (Ne.symm hm)]
  have hsz:w'.heap.size=w.heap.size:=by
   show (World.freeze w ⟨b,C.size,none⟩ 1).heap.size=_;unfold World.freeze;rw[if_neg (by decide)];simp
  have hmisc:w'.os=w.os∧w'.output=w.output∧w'.tape=w.tape:=by
   show (World.freeze w ⟨b,C.size,none⟩ 1).os=_∧(World.freeze w ⟨b,C.size,none⟩ 1).output=_∧(World.freeze w ⟨b,C.size,none⟩ 1).tape=_;unfold World.freeze;rw[if_neg (by decide)];exact⟨rfl,rfl,rfl⟩
  have hchg:Chg w w' (fun m=>(Own.row (.slice (some ⟨b,0,none⟩) l.length c) l 1 e).block=some m):=⟨hmisc.1,hmisc.2.1,hmisc.2.2,Nat.le_of_eq hsz.symm,fun m _ hm=>hkeep m (fun e'=>hm (e'▸rfl))⟩;have hg:=hr.upd (o':=.gone) hb hchg .gone (fun m hm=>by cases hm);have hst:=hr.updStay hb hchg;have hblt:=hr.blt k _ b hb rfl;have hg2:RepB G (ow.set k .gone) w' (fun m=>ok m∨m=b):={
   own:=fun j o hj=>(hg.own j o hj).mono (sY fun _ h=>.inl h) (fun _ _=>rfl)
   inj:=hg.inj
   okf:=fun m hm=>by
    rcases hm with hm|rfl
    ·exact hg.okf m hm
    ·refine⟨by rw[hsz]; exact hblt.1,fun j o hj ho=>?_⟩;by_cases e':k=j
     ·subst e';rw[List.getElem?_set_self (List.getElem?_eq_some_iff.1 hb).1] at hj;obtain rfl:=Option.some.inj hj; cases ho
     ·rw[List.getElem?_set_ne e'] at hj;exact e' (hr.inj k j _ o m hb hj rfl ho)
   blt:=hg.blt
   prot:=hg.prot
   gsz:=hg.gsz
   os:=hg.os
   out:=hg.out
   tape:=hg.tape
   ok0:=fun m hm=>.inl (hg.ok0 m hm)
   org:=fun m hm=>hm.elim (hg.org m) (fun e'=>e' ▸ .inr hblt.2)
   gl:=hg.gl.mono (sY fun _ h=>.inl h) }
  have hst2:Stay w w' ok (fun m=>ok m∨m=b):=hst.trans (sY fun _ h=>.inl h);have hC:=EncL.toC (ok':=fun m=>ok m∨m=b) hw' (.inr rfl) 0 (he.mono hst2) h1 (fun j v hj=>by
   have hlt:=(List.getElem?_eq_some_iff.1 hj).1;simp[C,List.getElem?_append_left hlt,hj])
  refine⟨undef,.slice (some ⟨b,0,none⟩) l.length c,w',_,?_,hg2,.sl rfl hc (hC.flat hs),hst2⟩;have hconv:(convert t1 t1 (.slice (some ⟨b,0,none⟩) l.length c)).run X.P w = .ok (.slice (some ⟨b,0,none⟩) l.length c) w':=by
   simp[convert,u1,u2,markStringish,hsh];rfl
  simp[execOp,ex,hconv]
end
end Go.Sm
