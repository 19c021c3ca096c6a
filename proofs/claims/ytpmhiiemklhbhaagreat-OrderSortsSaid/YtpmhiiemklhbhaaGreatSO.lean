import Derived.Test.YtpmhiiemklhbhaaGreatSL
import Derived.FollowTie
set_option linter.unusedVariables false
namespace Go.Sm
open Go
section
variable {X:Prg} {sl:List (Nat × Dat)} {ow:List Own} {w:World} {ok:Nat→Prop} {d:Dat}
def isIfc:TypeDesc→Bool
| .interface _=>true
| _=>false
theorem uw {t:TypeId} {x:Operand} {i:TI} (hi:lkT X.tab t=some i) (hn:isIfc i.desc=false) (hx:ev sl x=some d):OpR X (.makeInterface t x) sl ow (fun _=>.ifc t d) (fun _=>ow):=.of_run fun a w ok kn dst ty pos after g=>by
 have hv:=kn x _ hx;have u1:=zL (X.tok _ _ hi) w;refine⟨.iface t (a.eval x),?_,.ifc hv⟩;simp only[execOp,Instr.makeInterface];cases hd:i.desc with
 | interface ms=>rw[hd] at hn; cases hn
 | _=>rw[hd] at u1; simp[u1]
theorem OpR.assert {xt t:TypeId} {x:Operand} {i:TI} (hi:lkT X.tab t=some i) (hn:isIfc i.desc=false) (hx:ev sl x=some (.ifc t d)):OpR X (.typeAssert x xt t false) sl ow (fun _=>d) (fun _=>ow):=.of_run fun a w ok kn dst ty pos after g=>by
 obtain⟨v,ex,hv⟩:=(kn x _ hx).ifc_inv;have u1:=zL (X.tok _ _ hi) w;refine⟨v,?_,hv⟩;simp only[execOp,Instr.typeAssert];cases hd:i.desc with
 | interface ms=>rw[hd] at hn; cases hn
 | _=>rw[hd] at u1; simp[u1,ex]
structure IsMeth (X:Prg) (t:TypeId) (name:String) (f:FuncId):Prop where
  get:∃ i m e,X.P.info? t=some i∧i.methods.find? (fun m=>m.name==name)=some m∧m.path = #[]∧m.func=some (f,true)∧X.P.underlying t=some (.pointer e)
theorem run_meth {t:TypeId} {name:String} {f:FuncId} (h:IsMeth X t name f) (n:Nat) (v:Value) (w:World):(method (n+1) t v name).run X.P w = .ok (f,v) w:=by
 obtain⟨i,m,e,h1,h2,h3,h4,h5⟩:=h.get;have u1:=run_underlying h5 w;unfold method;simp[typeInfo,h1,h2,h3,h4,follow,receiverAt,u1,Place.get]
theorem xz {c:Operand} {name:String} {t:TypeId} {f:FuncId} {xs:Array Operand} {ats:Array TypeId} {ds:List Dat} {dr:Dat} {d:Value→Dat} {os:List Own} {os' ow':Value→List Own} (ks:List Nat) (hc:ev sl c=some (.ifc t dr)) (hm:IsMeth X t name f) (hfn:yL X f) {es:List Dat} (h:zn X f es os d os')
 (ha:evs sl xs.toList=some ds) (hp:uC ks ow=some os) (hn:wS ks=true) (hq:∀ x,putC ks (os' x) ow=some (ow' x)) (hes:dr::ds=es:=by rfl) :
 OpR X (.call { callee:=.invoke c name,args:=xs,argTypes:=ats }) sl ow d ow':=fun G a w ok hr kn o ho K Qm hK=>by
 subst hes;obtain⟨dst,op',ty,pos,after,g⟩:=o;dsimp only at ho; subst ho;obtain⟨v,e1,e2⟩:=(kn c _ hc).ifc_inv;have he:=EncL.cons e2 (evs_enc kn ha);obtain⟨fn,hf,hname,hb⟩:=hfn;have h1:fn.name ≠ "runtime.NumGoroutine":=by simpa using hname
 obtain⟨cb,hcb⟩:=Option.isSome_iff_exists.1 hb;obtain⟨n,hn'⟩:∃ n,X.P.types.size+Made.depth=n+1:=⟨X.P.types.size+Made.depth-1,by unfold Made.depth; omega⟩;have hrun:(execOp a.eval { dst:=dst,op:=.call { callee:=.invoke c name,args:=xs,argTypes:=ats },type:=ty,pos:=pos,after:=after,guard:=g }).run X.P w = .ok (.enter f (v::xs.toList.map a.eval).toArray) w:=by
  have g0 : #[v]++(#[Value.iface t v]++xs.map a.eval).extract 1 (#[Value.iface t v]++xs.map a.eval).size=(v::xs.toList.map a.eval).toArray:=by
   apply Array.toList_inj.1; simp;exact List.take_of_length_le (by simp)
  have gm:=run_meth hm n v w;simp only[execOp,resolve,e1,invoke];have g1:(#[Value.iface t v]++xs.map a.eval)[0]? = some (Value.iface t v):=by rw[← Array.getElem?_toList,Array.toList_append]; rfl
  have g2:(callMethod (.iface t v) name ((#[Value.iface t v]++xs.map a.eval).extract 1 (#[Value.iface t v]++xs.map a.eval).size)).run X.P w = .ok (.enter f (v::xs.toList.map a.eval).toArray) w:=by
   simp only[callMethod,Sem.run_bind,run_program,Result.andThen_ok,hn',gm,g0];simp[callFunc,hf,h1,hcb]
  simp only[Sem.run_bind,Sem.run_pure,Result.andThen_ok,g1,g2]
 refine vA hrun (fun d h=>by cases h) ?_;rw[Oper.upon_enter];refine (h w _ ok (hr.start hp hn) he).mono fun e w' ⟨v,r,o',ok',g1,g2,g3,x,g4,g5⟩=>?_;subst g1 g4 g5;obtain⟨g6,g7⟩:=hr.behind hp hn g2 (putC_eq (hq x));exact hK x v w' ok' g6 g3 g7
def fillZ {α:Type} (l:List α) (lo hi:Int) (z:α):List α:=l.take lo.toNat++List.replicate (hi.toNat-lo.toNat) z++l.drop hi.toNat
theorem zeroCells_made (z:Array Value) (n:Nat):Builtin.zeroCells z n=Go.madeCells z (n*z.size):=rfl
theorem OpR.clearM {α:Type} (f:α→Dat) (z:α) {x:Operand} {t1:TypeId} {i ie:TI} {e0 e:TypeId} {v:Value} {lo hi:Int} {l r:List α} {sz:Nat} {zs:List Dat} (k:Nat) (hc:cut l lo hi=some r)
 (hx:ev sl x=some (.val (vw v lo.toNat hi.toNat sz))) (hb:ow[k]? = some (.row v (l.map f) sz e)) (hi':lkT X.tab t1=some i) (hd:i.desc = .slice e0) (hie:lkT X.tab e0=some ie) (hsz:ie.size=sz) (hz:po ie.zero.cells.toList=some zs) (hl:Nat.beq zs.length sz=true) (hp:Nat.blt 0 sz=true)
 (hzd:ReL RNil zs (f z).cells) (hzl:Nat.beq (f z).cells.length sz=true) {ow':List Own} (ho:setK k (.row v ((fillZ l lo hi z).map f) sz e) ow some=some ow') :
 OpR X (.call { callee:=.builtin .clear,args:=#[x],argTypes:=#[t1] }) sl ow (fun _=>.tup []) (fun _=>ow'):=.of_val fun G a w ok hr kn dst ty pos after g=>by
 subst hsz;obtain rfl:=Option.some.inj (tS _ _ _ _ _ ho);obtain⟨⟨c1,c2,c3⟩,rfl⟩:=sQ hc;have ex:=(kn x _ hx).val_inv.1;have u1:=zL (X.tok _ _ hi') w;rw[hd] at u1;have hpos:0<ie.size:=by simpa [Nat.blt_eq] using hp
 have hzs:=Nat.eq_of_beq_eq_true hl;have hzd':=Nat.eq_of_beq_eq_true hzl;have same:hi.toNat=lo.toNat→fillZ l lo hi z=l:=fun h=>by
  unfold fillZ; rw[h,Nat.sub_self]; simp
 have keep:hi.toNat=lo.toNat→RepB G (ow.set k (.row v ((fillZ l lo hi z).map f) ie.size e)) w ok:=fun h=>by
  rw[same h];exact hr.upd hb (Chg.refl w _) (hr.own k _ hb) (fun m hm=>.inl hm)
 rcases (hr.own k _ hb).row_inv with ⟨rfl,hl0⟩|⟨b,c,vs,us,rfl,hc',hm,hh,hcz,he,h1,hs⟩
 ·have hl1:l=[]:=by simpa using hl0
  refine⟨undef,.tuple #[],w,ok,?_,keep (by subst hl1; simp at c3; omega),.tup (vs:=[]) .nil,Stay.refl _ _⟩;have ev1:a.eval x = .slice none 0 0:=ex;simp[execOp,resolve,invoke,builtin,Builtin.clear_,u1,ev1]
 ·rw[List.length_map] at hc';by_cases hn:hi.toNat=lo.toNat
  ·refine⟨undef,.tuple #[],w,ok,?_,keep hn,.tup (vs:=[]) .nil,Stay.refl _ _⟩;have ev1:∃ A c',a.eval x = .slice A 0 c':=by
    rw[ex]; unfold vw;dsimp only;split
    ·exact⟨_,_,rfl⟩
    ·exact⟨_,_,by rw[hn,Nat.sub_self]⟩
   obtain⟨A,c',ev1⟩:=ev1;cases A <;> simp[execOp,resolve,invoke,builtin,Builtin.clear_,u1,ev1]
  ·have hne:¬ c=lo.toNat:=by omega
   have ev1:a.eval x = .slice (some ⟨b,lo.toNat*ie.size,none⟩) (hi.toNat-lo.toNat) (c-lo.toNat):=by
    rw[ex]; unfold vw;dsimp only;rw[if_neg hne,sa,Nat.zero_add]
   have hvl:vs.length=l.length*ie.size:=by rw[← he.length,uU hs,List.length_map]
   have hze:=r9 w ok hz;have hzsize:ie.zero.cells.size=ie.size:=by rw[← Array.length_toList,← hze.1.length,hzs]
   have hmade:(Builtin.zeroCells ie.zero.cells (hi.toNat-lo.toNat)).toList=(List.replicate (hi.toNat-lo.toNat) ie.zero.cells.toList).flatten:=by
    rw[zeroCells_made]; exact made_many _ _ (by rw[hzsize]; exact hpos)
   generalize hZ:(List.replicate (hi.toNat-lo.toNat) ie.zero.cells.toList).flatten=Z at hmade;have hZl:Z.length=(hi.toNat-lo.toNat)*ie.size:=by
    rw[← hZ,List.length_flatten,List.map_replicate,List.sum_replicate_nat,Array.length_toList,hzsize]
   have hZ1:∀ u∈Z,one u=true:=fun u hu=>by
    rw[← hZ] at hu;obtain⟨q,hq,hu⟩:=List.mem_flatten.1 hu;rw[(List.mem_replicate.1 hq).2] at hu;exact hze.2 u hu
   have hZe:EncL w ok ((List.replicate (hi.toNat-lo.toNat) (f z)).flatMap Dat.cells) Z:=by
    rw[← hZ];have:∀ k:Nat,EncL w ok ((List.replicate k (f z)).flatMap Dat.cells) (List.replicate k ie.zero.cells.toList).flatten:=by
     intro k
     induction k with
     | zero=>exact .nil
     | succ k ih=>
      rw[List.replicate_succ,List.replicate_succ,List.flatMap_cons,List.flatten_cons];refine EncL.append ?_ ih;refine EncL.re (fun d d' v hR he=>?_) (fun _ _ h=>h) hzd hze.1;cases hR;obtain rfl:=he.val_inv.1;exact .slnil
    exact this _
   have hle1:lo.toNat*ie.size+(hi.toNat-lo.toNat)*ie.size=hi.toNat*ie.size:=by rw[← Nat.add_mul]; congr 1; omega
   have hle2:hi.toNat*ie.size≤l.length*ie.size:=Nat.mul_le_mul_right _ (by omega);obtain⟨w',cells',g1,g2,g3,g4⟩:=tF (P:=X.P) Z w (vs++us).toArray (lo.toNat*ie.size) 0 hh hZ1 (by simp only[List.size_toArray,List.length_append]; omega);have hw':cells'.toList=(vs.take (lo.toNat*ie.size)++Z++vs.drop (lo.toNat*ie.size+Z.length))++us:=by
    rw[g4]; simp only[Nat.add_zero];rw[List.take_append_of_le_length (by omega),List.drop_append_of_le_length (by omega)];simp only[List.append_assoc]
   obtain⟨cells'⟩:=cells';simp only at hw';subst hw';have g2':Chg w w' (fun m=>(Own.row (.slice (some ⟨b,0,none⟩) (l.map f).length c) (l.map f) ie.size e).block=some m):=g2.imp fun m h=>h▸rfl;have hst:=hr.updStay hb g2';have henc:EncL w' ok (((fillZ l lo hi z).map f).flatMap Dat.cells) (vs.take (lo.toNat*ie.size)++Z++vs.drop (lo.toNat*ie.size+Z.length)):=by
    unfold fillZ;rw[List.map_append,List.map_append,List.map_replicate,List.map_take,List.map_drop,List.flatMap_append,List.flatMap_append,flat_take hs,flat_drop hs,hZl,hle1];exact (((he.take _).append hZe).append (he.drop _)).mono hst
   have hfl:(fillZ l lo hi z).length=l.length:=by
    unfold fillZ;simp only[List.length_append,List.length_take,List.length_replicate,List.length_drop]; omega
   refine⟨undef,.tuple #[],w',ok,?_,hr.upd hb g2' (.row (us:=us) (by rw[List.length_map,List.length_map,hfl]) (by rw[List.length_map]; exact hc') hm (by rw[g3]) ?_ henc ?_ ?_) (fun m hm=>.inl hm),.tup (vs:=[]) .nil,hst⟩
   ·have u4:=tG (X.tok _ _ hie) w;have hn0:hi.toNat-lo.toNat≠0:=by omega
    obtain⟨m,hm'⟩:∃ m,hi.toNat-lo.toNat=m+1:=⟨hi.toNat-lo.toNat-1,by omega⟩;rw[hm'] at ev1 hmade;simp[execOp,resolve,invoke,builtin,Builtin.clear_,u1,ev1,u4,hmade,g1]
   ·rw[hcz]; simp only[List.length_append,List.length_take,List.length_drop]; omega
   ·intro u hu;simp only[List.append_assoc,List.mem_append] at hu;rcases hu with hu|hu|hu
    ·exact h1 u (List.mem_of_mem_take hu)
    ·exact hZ1 u hu
    ·exact h1 u (List.mem_of_mem_drop hu)
   ·intro q hq;obtain⟨y,hy,rfl⟩:=List.mem_map.1 hq;unfold fillZ at hy;simp only[List.append_assoc,List.mem_append] at hy;rcases hy with hy|hy|hy
    ·exact hs _ (List.mem_map.2 ⟨y,List.mem_of_mem_take hy,rfl⟩)
    ·rw[(List.mem_replicate.1 hy).2]; exact hzd'
    ·exact hs _ (List.mem_map.2 ⟨y,List.mem_of_mem_drop hy,rfl⟩)
end
end Go.Sm
