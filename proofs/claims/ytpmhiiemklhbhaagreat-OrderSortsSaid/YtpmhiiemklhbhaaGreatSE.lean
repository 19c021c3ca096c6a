import Derived.Test.YtpmhiiemklhbhaaGreatSB
import Derived.Laws.MakeOwn
import Derived.Laws.CopyRow
import Derived.Lib.BufferWrite
set_option linter.unusedVariables false
namespace Go.Sm
open Go.RowKit Go.Lib
def mkz {α:Type} (by_:Nat) (n:Int) (z:α):Option (List α):=if 0≤n∧n*((by_:Int)+1)≤140737488355328 then some (List.replicate n.toNat z) else none
theorem mkz_of {α:Type} {by_:Nat} {n:Int} {z:α} (h:0≤n∧n*((by_:Int)+1)≤140737488355328):mkz by_ n z=some (List.replicate n.toNat z):=if_pos h
def mkc {α:Type} (by_:Nat) (n:Int):Option (List α):=if 0≤n∧n*((by_:Int)+1)≤140737488355328 then some [] else none
theorem mkc_of {α:Type} {by_:Nat} {n:Int} (h:0≤n∧n*((by_:Int)+1)≤140737488355328):mkc (α:=α) by_ n=some []:=if_pos h
def over {α:Type} (l m:List α):List α:=m.take l.length++l.drop m.length
theorem over_same {α:Type} {l m:List α} (h:l.length=m.length):over l m=m:=by unfold over; rw[h,List.take_length,← h,List.drop_length,List.append_nil]
theorem over_length {α:Type} (l m:List α):(over l m).length=l.length:=by simp[over]; omega
section
variable {X:Prg} {sl:List (Nat × Dat)} {ow:List Own} {α:Type}
theorem made_one (z:Array Value) (v:Value) (hz:z.toList=[v]) (n:Nat):(Go.madeCells z n).toList=List.replicate n v:=by
 have h1:z.size=1:=by rw[← Array.length_toList,hz]; rfl
 have h0:z = #[v]:=by apply Array.toList_inj.1; simpa using hz
 subst h0;apply List.ext_getElem
 ·simp[Go.madeCells]
 ·intro i h2 h3;simp[Go.madeCells,Nat.mod_one]
theorem OpR.makeRow {t:TypeId} {x y:Operand} {i ie:TI} {e:TypeId} {sz by_:Nat} {kl kc:IntKind} {n m:Int} {l:List Dat} (hi:lkT X.tab t=some i) (hd:i.desc = .slice e) (hie:lkT X.tab e=some ie) (hsz:ie.size=sz) (hbt:ie.bytes=by_)
 (hx:ev sl x=some (.val (.int kl n))) (hy:ev sl y=some (.val (.int kc m))) (hb:0≤m∧m*((by_:Int)+1)≤140737488355328) (hl:(n=0∧l=[])∨(n=m∧∃ v,ie.zero.cells.toList=[v]∧sz=1∧simple v=true∧l=List.replicate n.toNat (.val v)))
 {ow':Value→List Own} (ho:∀ x,appK ow (.row x l sz e) some=some (ow' x)) :
 OpR X (.makeSlice t x y) sl ow (fun x=>.val x) ow':=.of_val fun G a w ok hr kn dst ty pos after g=>by
 subst hsz hbt;obtain⟨hb0,hb1⟩:=hb;have u1:=(X.tok _ _ hi).desc;obtain⟨xi,i1,i2,i3,i4⟩:=(X.tok _ _ hie).info;rw[hd] at u1;have ex:=(kn x _ hx).val_inv.1;have ey:=(kn y _ hy).val_inv.1;have hm0:0≤m*(ie.bytes:Int):=Int.mul_nonneg hb0 (by omega);have hexp:m*((ie.bytes:Int)+1)=m*(ie.bytes:Int)+m:=by rw[Int.mul_add,Int.mul_one]
 have hm:m≤140737488355328:=by omega
 have hbytes:(xi.bytes:Int)*m≤281474976710656:=by rw[i3,Int.mul_comm]; omega
 have hn:0≤n∧n≤m:=by rcases hl with ⟨rfl,_⟩|⟨rfl,_⟩ <;> omega
 have hrun:=Go.run_make (P:=X.P) w t e xi ie.zero u1 i1 i4 kl kc n m hn.1 hn.2 hbytes (by omega);refine⟨.slice (some ⟨w.heap.size,0,none⟩) n.toNat m.toNat,.slice (some ⟨w.heap.size,0,none⟩) n.toNat m.toNat,w.alloc (.cells (Go.madeCells ie.zero.cells (m.toNat*xi.size)) e),ok,?_,?_,.val rfl,hr.stay0 (Chg.alloc w _ _)⟩
 ·simp only[execOp,ex,ey,Sem.run_bind,hrun,Result.andThen_ok,Sem.run_pure]
 ·rw[← Option.some.inj (rx _ _ _ _ (ho (.slice (some ⟨w.heap.size,0,none⟩) n.toNat m.toNat)))];have hc:=Chg.alloc w (.cells (Go.madeCells ie.zero.cells (m.toNat*xi.size)) e) (fun _=>False);have hcell:(w.alloc (.cells (Go.madeCells ie.zero.cells (m.toNat*xi.size)) e)).heap[w.heap.size]? = some (.cells (Go.madeCells ie.zero.cells (m.toNat*xi.size)) e (0,0)):=vH _ _;have hmax:m.toNat≤maxLen:=by simp only[maxLen]; omega
  refine hr.newOwn' hc (b:=w.heap.size) ?_ (fun b hb=>by simpa [Own.block,vblk] using hb.symm) (Nat.le_refl _) (by rw[uj]; omega);rcases hl with ⟨rfl,rfl⟩|⟨rfl,v,hv,hs1,hsv,rfl⟩
  ·refine .row (vs:=[]) (us:=(Go.madeCells ie.zero.cells (m.toNat*xi.size)).toList) rfl (by simp) hmax (by simpa using hcell) (by simp[size_madeCells,i2]) .nil (by simp) (by simp)
  ·have hsz1:xi.size=1:=by rw[i2,hs1]
   have hml:=made_one ie.zero.cells v hv (n.toNat*xi.size);refine .row (vs:=List.replicate n.toNat v) (us:=[]) (by simp) (Nat.le_refl _) hmax ?_ (by simp[hs1]) ?_ (fun u hu=>by rw[(List.mem_replicate.1 hu).2]; exact uZ hsv) (fun d hd=>by rw[(List.mem_replicate.1 hd).2,hs1]; rfl)
   ·rw[hcell];congr 2;apply Array.toList_inj.1;rw[hml,hsz1]; simp
   ·have:∀ k:Nat,EncL (w.alloc (.cells (Go.madeCells ie.zero.cells (n.toNat*xi.size)) e)) ok ((List.replicate k (Dat.val v)).flatMap Dat.cells) (List.replicate k v):=by
     intro k
     induction k with
     | zero=>exact .nil
     | succ k ih=>
      rw[List.replicate_succ,List.replicate_succ,List.flatMap_cons];exact .cons (.val (uZ hsv)) ih
    exact this _
theorem ql {t:TypeId} {x y:Operand} {i ie:TI} {e:TypeId} {sz by_:Nat} {kl kc:IntKind} {n:Int} (f:α→Dat) {z:α} {l:List α} (h:mkz by_ n z=some l) (hi:lkT X.tab t=some i) (hd:i.desc = .slice e) (hie:lkT X.tab e=some ie) (hsz:ie.size=sz) (hbt:ie.bytes=by_)
 (hx:ev sl x=some (.val (.int kl n))) (hy:ev sl y=some (.val (.int kc n))) {v:Value} (hv:ie.zero.cells.toList=[v]) (hs:Nat.beq sz 1=true) (hsv:simple v=true) (hf:f z = .val v)
 {ow':Value→List Own} (ho:∀ x,appK ow (.row x (l.map f) sz e) some=some (ow' x)) :
 OpR X (.makeSlice t x y) sl ow (fun x=>.val x) ow':=by
 unfold mkz at h;split at h
 ·rename_i hb;obtain rfl:=Option.some.inj h;refine OpR.makeRow hi hd hie hsz hbt hx hy hb (.inr ⟨rfl,v,hv,Nat.eq_of_beq_eq_true hs,hsv,?_⟩) ho;rw[List.map_replicate,hf]
 ·cases h
theorem range_map_add (f:Nat→Value) (a b:Nat):(List.range (a+b)).map f=(List.range a).map f++(List.range b).map (fun j=>f (a+j)):=by
 rw[List.range_add,List.map_append,List.map_map]; rfl
theorem made_many (z:Array Value) (n:Nat) (hz:0<z.size):(Go.madeCells z (n*z.size)).toList=(List.replicate n z.toList).flatten:=by
 have h0:(Go.madeCells z (n*z.size)).toList=(List.range (n*z.size)).map (fun k=>z[k % z.size]!):=by simp[Go.madeCells,Array.toList_range]
 rw[h0]
 induction n with
 | zero=>simp
 | succ n ih=>
  have hself:(List.range z.size).map (fun j=>z[(n*z.size+j) % z.size]!)=z.toList:=by
   apply List.ext_getElem
   ·simp
   ·intro i h1 h2;have hi:i<z.size:=by simpa using h1
    simp only[List.getElem_map,List.getElem_range];rw[Nat.mul_comm,Nat.mul_add_mod,Nat.mod_eq_of_lt hi];simp[hi]
  have ih':=ih (by simp[Go.madeCells,Array.toList_range]);rw[Nat.add_mul,Nat.one_mul,range_map_add,ih',hself,List.replicate_succ',List.flatten_append];simp
theorem OpR.makeRowN {t:TypeId} {x y:Operand} {i ie:TI} {e:TypeId} {sz by_:Nat} {kl kc:IntKind} {n:Int} {zs:List Dat} (hi:lkT X.tab t=some i) (hd:i.desc = .slice e) (hie:lkT X.tab e=some ie) (hsz:ie.size=sz) (hbt:ie.bytes=by_)
 (hx:ev sl x=some (.val (.int kl n))) (hy:ev sl y=some (.val (.int kc n))) (hb:0≤n∧n*((by_:Int)+1)≤140737488355328) (hz:po ie.zero.cells.toList=some zs) (hl:Nat.beq zs.length sz=true) (hp:Nat.blt 0 sz=true)
 (zd:Dat) (hzd:∀ (w:World) (ok:Nat→Prop) (vs:List Value),EncL w ok zs vs→EncL w ok zd.cells vs) (hzl:Nat.beq zd.cells.length sz=true)
 {ow':Value→List Own} (ho:∀ x,appK ow (.row x (List.replicate n.toNat zd) sz e) some=some (ow' x)) :
 OpR X (.makeSlice t x y) sl ow (fun x=>.val x) ow':=.of_val fun G a w ok hr kn dst ty pos after g=>by
 subst hsz hbt;obtain⟨hb0,hb1⟩:=hb;have u1:=(X.tok _ _ hi).desc;obtain⟨xi,i1,i2,i3,i4⟩:=(X.tok _ _ hie).info;rw[hd] at u1;have ex:=(kn x _ hx).val_inv.1;have ey:=(kn y _ hy).val_inv.1;have hm0:0≤n*(ie.bytes:Int):=Int.mul_nonneg hb0 (by omega);have hexp:n*((ie.bytes:Int)+1)=n*(ie.bytes:Int)+n:=by rw[Int.mul_add,Int.mul_one]
 have hbytes:(xi.bytes:Int)*n≤281474976710656:=by rw[i3,Int.mul_comm]; omega
 have hrun:=Go.run_make (P:=X.P) w t e xi ie.zero u1 i1 i4 kl kc n n hb0 (Int.le_refl _) hbytes (by omega);have hc:=Chg.alloc w (.cells (Go.madeCells ie.zero.cells (n.toNat*xi.size)) e) (fun _=>False);have hcell:(w.alloc (.cells (Go.madeCells ie.zero.cells (n.toNat*xi.size)) e)).heap[w.heap.size]? = some (.cells (Go.madeCells ie.zero.cells (n.toNat*xi.size)) e (0,0)):=vH _ _;have hmax:n.toNat≤maxLen:=by simp only[maxLen]; omega
 have hzs:=Nat.eq_of_beq_eq_true hl;have hzd':=Nat.eq_of_beq_eq_true hzl;have hpos:0<ie.size:=by simpa [Nat.blt_eq] using hp
 refine⟨.slice (some ⟨w.heap.size,0,none⟩) n.toNat n.toNat,.slice (some ⟨w.heap.size,0,none⟩) n.toNat n.toNat,w.alloc (.cells (Go.madeCells ie.zero.cells (n.toNat*xi.size)) e),ok,?_,?_,.val rfl,hr.stay0 hc⟩
 ·simp only[execOp,ex,ey,Sem.run_bind,hrun,Result.andThen_ok,Sem.run_pure]
 ·rw[← Option.some.inj (rx _ _ _ _ (ho (.slice (some ⟨w.heap.size,0,none⟩) n.toNat n.toNat)))];refine hr.newOwn' hc (b:=w.heap.size) ?_ (fun b hb=>by simpa [Own.block,vblk] using hb.symm) (Nat.le_refl _) (by rw[uj]; omega);have hze:=r9 (w.alloc (.cells (Go.madeCells ie.zero.cells (n.toNat*xi.size)) e)) ok hz;have hzsize:ie.zero.cells.size=ie.size:=by rw[← Array.length_toList,← hze.1.length,hzs]
  have hmade:(Go.madeCells ie.zero.cells (n.toNat*xi.size)).toList=(List.replicate n.toNat ie.zero.cells.toList).flatten:=by
   rw[i2,← hzsize]; exact made_many _ _ (by rw[hzsize]; exact hpos)
  refine .row (vs:=(List.replicate n.toNat ie.zero.cells.toList).flatten) (us:=[]) (by simp) (Nat.le_refl _) hmax ?_ ?_ ?_ ?_ (fun d hd=>by rw[(List.mem_replicate.1 hd).2]; exact hzd')
  ·rw[hcell];congr 2;apply Array.toList_inj.1;rw[hmade]; simp
  ·rw[List.append_nil,← hmade,Array.length_toList,size_madeCells,i2]
  ·have:∀ k:Nat,EncL (w.alloc (.cells (Go.madeCells ie.zero.cells (n.toNat*xi.size)) e)) ok ((List.replicate k zd).flatMap Dat.cells) (List.replicate k ie.zero.cells.toList).flatten:=by
    intro k
    induction k with
    | zero=>exact .nil
    | succ k ih=>
     rw[List.replicate_succ,List.replicate_succ,List.flatMap_cons,List.flatten_cons];exact (hzd _ _ _ hze.1).append ih
   exact this _
  ·intro v hv;obtain⟨l,hl',hv'⟩:=List.mem_flatten.1 hv;rw[(List.mem_replicate.1 hl').2] at hv';exact hze.2 v hv'
theorem qk {t:TypeId} {x y:Operand} {i ie:TI} {e:TypeId} {sz by_:Nat} {kl kc:IntKind} {n:Int} (f:α→Dat) {z:α} {l:List α} {zs:List Dat} (h:mkz by_ n z=some l) (hi:lkT X.tab t=some i) (hd:i.desc = .slice e) (hie:lkT X.tab e=some ie) (hsz:ie.size=sz) (hbt:ie.bytes=by_)
 (hx:ev sl x=some (.val (.int kl n))) (hy:ev sl y=some (.val (.int kc n))) (hz:po ie.zero.cells.toList=some zs) (hl:Nat.beq zs.length sz=true) (hp:Nat.blt 0 sz=true) (hzd:ReL RNil zs (f z).cells) (hzl:Nat.beq (f z).cells.length sz=true)
 {ow':Value→List Own} (ho:∀ x,appK ow (.row x (l.map f) sz e) some=some (ow' x)) :
 OpR X (.makeSlice t x y) sl ow (fun x=>.val x) ow':=by
 unfold mkz at h;split at h
 ·rename_i hb;obtain rfl:=Option.some.inj h;refine OpR.makeRowN hi hd hie hsz hbt hx hy hb hz hl hp (f z) (fun w ok vs he=>EncL.re (fun d d' v hR he=>?_) (fun _ _ h=>h) hzd he) hzl (by rwa[List.map_replicate] at ho);cases hR;obtain rfl:=he.val_inv.1;exact .slnil
 ·cases h
theorem qm {t:TypeId} {x y:Operand} {i ie:TI} {e:TypeId} {sz by_:Nat} {kl kc:IntKind} {n:Int} (f:α→Dat) {l:List α} (h:mkc by_ n=some l) (hi:lkT X.tab t=some i) (hd:i.desc = .slice e) (hie:lkT X.tab e=some ie) (hsz:ie.size=sz) (hbt:ie.bytes=by_)
 (hx:ev sl x=some (.val (.int kl 0))) (hy:ev sl y=some (.val (.int kc n)))
 {ow':Value→List Own} (ho:∀ x,appK ow (.row x (l.map f) sz e) some=some (ow' x)) :
 OpR X (.makeSlice t x y) sl ow (fun x=>.val x) ow':=by
 unfold mkc at h;split at h
 ·rename_i hb;obtain rfl:=Option.some.inj h;exact OpR.makeRow hi hd hie hsz hbt hx hy hb (.inl ⟨rfl,rfl⟩) ho
 ·cases h
theorem overD (l ds:List Dat):(over l ds).length=l.length:=over_length l ds
theorem flat1 {l:List Dat} (h:∀ d∈l,d.cells.length=1):(l.flatMap Dat.cells).length=l.length:=by
 induction l with
 | nil=>rfl
 | cons d l ih=>rw[List.flatMap_cons,List.length_append,h d (by simp),ih (fun x hx=>h x (by simp[hx]))]; simp; omega
theorem flat1_take {l:List Dat} (h:∀ d∈l,d.cells.length=1) (n:Nat):(l.take n).flatMap Dat.cells=(l.flatMap Dat.cells).take n:=by
 induction l generalizing n with
 | nil=>simp
 | cons d l ih=>
  have hd:=h d (by simp);obtain⟨c,hc⟩:∃ c,d.cells=[c]:=List.length_eq_one_iff.1 hd;cases n with
  | zero=>simp
  | succ n=>simp only[List.take_succ_cons,List.flatMap_cons,hc,List.cons_append,List.nil_append]; rw[ih (fun x hx=>h x (by simp[hx]))]
theorem flat1_drop {l:List Dat} (h:∀ d∈l,d.cells.length=1) (n:Nat):(l.drop n).flatMap Dat.cells=(l.flatMap Dat.cells).drop n:=by
 induction l generalizing n with
 | nil=>simp
 | cons d l ih=>
  have hd:=h d (by simp);obtain⟨c,hc⟩:∃ c,d.cells=[c]:=List.length_eq_one_iff.1 hd;cases n with
  | zero=>simp
  | succ n=>simp only[List.drop_succ_cons,List.flatMap_cons,hc,List.cons_append,List.nil_append]; exact ih (fun x hx=>h x (by simp[hx])) n
theorem one_cell' {v:Value} (h:one v=true):v.oneCell'=true:=oneCell_of h
theorem OpR.copyRow {t1 t2:TypeId} {x y:Operand} {i ie:TI} {e e0:TypeId} {v:Value} {l ds:List Dat} (k:Nat) (hi:lkT X.tab t1=some i) (hd:i.desc = .slice e) (hie:lkT X.tab e=some ie) (hsz:Nat.beq ie.size 1=true)
 (hx:ev sl x=some (.val v)) (hb:ow[k]? = some (.row v l 1 e0)) (hy:Src sl ow y 1 ds)
 {l':List Dat} (hl':over l ds=l') {ow':List Own} (ho:setK k (.row v l' 1 e0) ow some=some ow') :
 OpR X (.call { callee:=.builtin .copy,args:=#[x,y],argTypes:=#[t1,t2] }) sl ow (fun _=>.dead) (fun _=>ow'):=.of_val fun G a w ok hr kn dst ty pos after g=>by
 subst hl';have hsz':=Nat.eq_of_beq_eq_true hsz;obtain rfl:=Option.some.inj (tS _ _ _ _ _ ho);have u1:=(X.tok _ _ hi).desc;obtain⟨xi,i1,i2,i3,i4⟩:=(X.tok _ _ hie).info;rw[hd] at u1;have hs1:(X.P.info? e).map (·.size)=some 1:=by rw[i1]; simp[i2,hsz']
 have hown:=hr.own k _ hb;have ex:=(kn x _ hx).val_inv.1;have same:over l ds=l→RepB G (ow.set k (.row v (over l ds) 1 e0)) w ok:=fun h=>by
  rw[h];have:ow.set k (.row v l 1 e0)=ow:=by
   apply List.ext_getElem?;intro j;by_cases hj:k=j
   ·subst hj;rw[List.getElem?_set_self (List.getElem?_eq_some_iff.1 hb).1,hb]
   ·rw[List.getElem?_set_ne hj]
  rw[this]; exact hr
 rcases hown.row_inv with ⟨rfl,rfl⟩|⟨b,c,vs,us,rfl,hc,hm,hh,hz,he,h1,hs⟩
 ·have hrun:∃ q,(Builtin.copy_ #[t1,t2] ty #[.slice none 0 0,a.eval y]).run X.P w = .ok (goInt q) w:=by
   have ey':∃ A m cc,a.eval y = .slice A m cc:=by
    rcases hy.run hr kn with ⟨_,A,cc,e⟩|⟨pa,cc,_,e,_⟩
    ·exact⟨A,_,cc,e⟩
    ·exact⟨_,_,cc,e⟩
   obtain⟨A,m,cc,ey⟩:=ey';refine⟨0,?_⟩;rw[ey];cases A <;> simp[Builtin.copy_,run_underlying u1,Builtin.lenOf,Builtin.firstCells,sizeOf,typeInfo,i1,loadCells,loadCellsFrom]
  obtain⟨q,hrun⟩:=hrun;refine⟨undef,goInt q,w,ok,?_,same (by simp[over]),.dead,Stay.refl _ _⟩;simp only[execOp,resolve,invoke,builtin,Sem.run_bind,Sem.run_pure,Result.andThen_ok,List.map_toArray,List.map_cons,List.map_nil,ex,hrun]
 ·rcases hy.run hr kn with ⟨rfl,A,cc,ey⟩|⟨pa,pc,news,ey,n1,n2,n3,n4,n5⟩
  ·have hrun:(Builtin.copy_ #[t1,t2] ty #[.slice (some ⟨b,0,none⟩) l.length c,.slice A 0 cc]).run X.P w = .ok (goInt 0) w:=by
    cases A <;> simp[Builtin.copy_,run_underlying u1,Builtin.lenOf,Builtin.firstCells,sizeOf,typeInfo,i1,storeCells,loadCells,loadCellsFrom]
   refine⟨undef,goInt 0,w,ok,?_,same (by simp[over]),.dead,Stay.refl _ _⟩;simp only[execOp,resolve,invoke,builtin,Sem.run_bind,Sem.run_pure,Result.andThen_ok,List.map_toArray,List.map_cons,List.map_nil,ex,ey,hrun]
  ·have hd1:∀ d∈ds,d.cells.length=1:=n5;have hvl:vs.length=l.length:=by rw[← he.length,flat1 hs]
   have hnl:news.length=ds.length:=by rw[← n1.length,flat1 hd1]
   obtain⟨m,hm'⟩:∃ m,m=Nat.min ds.length l.length:=⟨_,rfl⟩;have hmle:m≤ds.length∧m≤l.length:=by rw[hm']; exact⟨Nat.min_le_left _ _,Nat.min_le_right _ _⟩
   have hcl:(news.take m).length=m:=by rw[List.length_take,hnl]; exact Nat.min_eq_left hmle.1
   have hrun:=run_copy_row (P:=X.P) w t1 t2 ty e b 0 l.length c pa ds.length pc (vs++us).toArray e0 (news.take m) u1 hs1 hh (by rw[hcl,hm']) (fun j u hj=>by
    rw[List.getElem?_take] at hj;split at hj
    ·exact n3 j u hj
    ·cases hj) (by rw[hcl]; simp only[List.size_toArray,List.length_append]; omega) (fun u hu=>one_cell' (n4 u (List.mem_of_mem_take hu)))
   have hrow:((vs++us).toArray.toList.take 0++news.take m++(vs++us).toArray.toList.drop (0+(news.take m).length))=(news.take m++vs.drop m)++us:=by
    rw[hcl];simp only[List.take_zero,List.nil_append,Nat.zero_add];rw[List.drop_append_of_le_length (by omega),List.append_assoc]
   rw[hrow] at hrun;have hchg:Chg w (w.setRow b ((news.take m++vs.drop m)++us).toArray) (fun q=>(Own.row (.slice (some ⟨b,0,none⟩) l.length c) l 1 e0).block=some q):=
    ⟨rfl,rfl,rfl,by simp[World.setRow],fun q _ hq=>setRow_other w b q _ (fun e'=>hq (by rw[← e']; rfl))⟩
   have hst:=hr.updStay hb hchg;refine⟨undef,goInt (news.take m).length,_,ok,?_,?_,.dead,hst⟩
   ·simp only[execOp,resolve,invoke,builtin,Sem.run_bind,Sem.run_pure,Result.andThen_ok,List.map_toArray,List.map_cons,List.map_nil,ex,ey,hrun]
   ·have ho1:over l ds=ds.take m++l.drop m:=by
     unfold over;rcases Nat.le_total ds.length l.length with h|h
     ·rw[hm',show Nat.min ds.length l.length=ds.length from Nat.min_eq_left h,List.take_of_length_le h,List.take_length]
     ·rw[hm',show Nat.min ds.length l.length=l.length from Nat.min_eq_right h,List.drop_length,List.drop_eq_nil_of_le h]
    have hcell:(w.setRow b ((news.take m++vs.drop m)++us).toArray).heap[b]? = some (.cells ((news.take m++vs.drop m)++us).toArray e0 (0,0)):=setRow_heap w b _ _ e0 _ hh;refine hr.upd hb hchg ?_ (fun q hq=>.inl hq);refine .row (vs:=news.take m++vs.drop m) (us:=us) (overD l ds) hc hm hcell ?_ ?_ ?_ ?_
    ·rw[hz]; simp only[List.length_append,hcl,List.length_drop,hvl];omega
    ·rw[ho1,List.flatMap_append,flat1_take hd1,flat1_drop hs];exact ((n1.take m).mono hst).append ((he.drop m).mono hst)
    ·intro u hu;rcases List.mem_append.1 hu with hu|hu
     ·exact n4 u (List.mem_of_mem_take hu)
     ·exact h1 u (List.mem_of_mem_drop hu)
    ·intro d hd';rw[ho1] at hd';rcases List.mem_append.1 hd' with hd'|hd'
     ·exact hd1 d (List.mem_of_mem_take hd')
     ·exact hs d (List.mem_of_mem_drop hd')
theorem over_map (f:α→Dat) (l m:List α):over (l.map f) (m.map f)=(over l m).map f:=by simp[over]
theorem OpR.copyM {t1 t2:TypeId} {x y:Operand} {i ie:TI} {e e0:TypeId} {v:Value} (f:α→Dat) {l m:List α} (k:Nat) (hi:lkT X.tab t1=some i) (hd:i.desc = .slice e) (hie:lkT X.tab e=some ie) (hsz:Nat.beq ie.size 1=true)
 (hx:ev sl x=some (.val v)) (hb:ow[k]? = some (.row v (l.map f) 1 e0)) (hy:ev sl y=some (.sl 1 (m.map f)))
 {ow':List Own} (ho:setK k (.row v ((over l m).map f) 1 e0) ow some=some ow') :
 OpR X (.call { callee:=.builtin .copy,args:=#[x,y],argTypes:=#[t1,t2] }) sl ow (fun _=>.dead) (fun _=>ow'):=OpR.copyRow k hi hd hie hsz hx hb (.sl hy) (over_map f l m) ho
theorem OpR.copyF {t1 t2:TypeId} {x y:Operand} {i ie:TI} {e e0:TypeId} {v:Value} (f:α→Dat) {l m:List α} (k:Nat) (hy:Src sl ow y 1 (m.map f)) (hi:lkT X.tab t1=some i) (hd:i.desc = .slice e) (hie:lkT X.tab e=some ie) (hsz:Nat.beq ie.size 1=true)
 (hx:ev sl x=some (.val v)) (hb:ow[k]? = some (.row v (l.map f) 1 e0))
 {ow':List Own} (ho:setK k (.row v ((over l m).map f) 1 e0) ow some=some ow') :
 OpR X (.call { callee:=.builtin .copy,args:=#[x,y],argTypes:=#[t1,t2] }) sl ow (fun _=>.dead) (fun _=>ow'):=OpR.copyRow k hi hd hie hsz hx hb hy (over_map f l m) ho
theorem OpR.copyNil {t1 t2:TypeId} {x y:Operand} {i ie:TI} {e e0:TypeId} {v:Value} {l:List Dat} (k:Nat) (hi:lkT X.tab t1=some i) (hd:i.desc = .slice e) (hie:lkT X.tab e=some ie)
 (hx:ev sl x=some (.val v)) (hb:ow[k]? = some (.row v l 1 e0)) (hy:ev sl y=some (.val (.slice none 0 0))) :
 OpR X (.call { callee:=.builtin .copy,args:=#[x,y],argTypes:=#[t1,t2] }) sl ow (fun _=>.dead) (fun _=>ow):=.of_val fun G a w ok hr kn dst ty pos after g=>by
 have u1:=(X.tok _ _ hi).desc;obtain⟨xi,i1,i2,i3,i4⟩:=(X.tok _ _ hie).info;rw[hd] at u1;have ex:=(kn x _ hx).val_inv.1;have ey:=(kn y _ hy).val_inv.1;have hrun:∀ A n c,(Builtin.copy_ #[t1,t2] ty #[.slice A n c,.slice none 0 0]).run X.P w = .ok (goInt 0) w:=fun A n c=>by
  cases A <;> simp[Builtin.copy_,run_underlying u1,Builtin.lenOf,Builtin.firstCells,sizeOf,typeInfo,i1,storeCells]
 refine⟨undef,goInt 0,w,ok,?_,hr,.dead,Stay.refl _ _⟩;rcases (hr.own k _ hb).row_inv with ⟨rfl,rfl⟩|⟨b,c,vs,us,rfl,_⟩
 ·simp only[execOp,resolve,invoke,builtin,Sem.run_bind,Sem.run_pure,Result.andThen_ok,List.map_toArray,List.map_cons,List.map_nil,ex,ey,hrun]
 ·simp only[execOp,resolve,invoke,builtin,Sem.run_bind,Sem.run_pure,Result.andThen_ok,List.map_toArray,List.map_cons,List.map_nil,ex,ey,hrun]
theorem OpR.sliceRow {xt:TypeId} {x:Operand} {lo hi:Option Operand} {i:TI} {e e0:TypeId} {ie:TI} {v:Value} {l:List Dat} {sz:Nat} (k p q:Nat)
 (hi':lkT X.tab xt=some i) (hd:i.desc = .slice e) (hie:lkT X.tab e=some ie) (hsz:ie.size=sz) (hx:ev sl x=some (.val v)) (hb:ow[k]? = some (.row v l sz e0)) (hlo:Bd sl lo 0 p) (hhi:Bd sl hi l.length q) (hpq:p≤q) (hq:q≤l.length) :
 OpR X (.slice xt x lo hi none) sl ow (fun _=>.val (vw v p q sz)) (fun _=>ow):=.of_val fun G a w ok hr kn dst ty pos after g=>by
 subst hsz;have u1:=zL (X.tok _ _ hi') w;have u2:=xm (X.tok _ _ hie) w;rw[hd] at u1;have ex:=(kn x _ hx).val_inv.1;rcases (hr.own k _ hb).row_inv with ⟨rfl,rfl⟩|⟨b,c,vs,us,rfl,hc,_⟩
 ·have hbd:=rj (P:=X.P) kn hlo hhi hpq hq (Nat.le_refl _) true;simp at hq;subst hq;have:p=0:=by omega
  subst this;simp only[List.length_nil] at hbd;refine⟨undef,.slice none 0 0,w,ok,?_,hr,.val rfl,Stay.refl _ _⟩;simp[execOp,Instr.sliceAt,Instr.slice,u1,u2,ex,hbd]
 ·have hbd:=rj (P:=X.P) kn hlo hhi hpq hq hc true;by_cases hcp:c=p
  ·have hq':q=p:=by omega
   subst hcp hq';refine⟨undef,.slice (some ⟨b,0,none⟩) 0 0,w,ok,?_,hr,?_,Stay.refl _ _⟩
   ·simp[execOp,Instr.sliceAt,Instr.slice,u1,u2,ex,hbd]
   ·simp only[vw,if_true]; exact .val rfl
  ·refine⟨undef,.slice (some ((⟨b,0,none⟩:Addr).add (p*ie.size))) (q-p) (c-p),w,ok,?_,hr,?_,Stay.refl _ _⟩
   ·simp[execOp,Instr.sliceAt,Instr.slice,u1,u2,ex,hbd,hcp]
   ·simp only[vw,if_neg hcp]; exact .val rfl
theorem wG {xt:TypeId} {x:Operand} {lo hi:Option Operand} {i:TI} {e e0:TypeId} {ie:TI} {v:Value} (f:α→Dat) {l r:List α} {sz:Nat} {p q:Int} (k:Nat) (h:cut l p q=some r)
 (hi':lkT X.tab xt=some i) (hd:i.desc = .slice e) (hie:lkT X.tab e=some ie) (hsz:ie.size=sz) (hx:ev sl x=some (.val v)) (hb:ow[k]? = some (.row v (l.map f) sz e0)) (hlo:BdM sl lo 0 p) (hhi:BdM sl hi l.length q) :
 OpR X (.slice xt x lo hi none) sl ow (fun _=>.val (vw v p.toNat q.toNat sz)) (fun _=>ow):=by
 obtain⟨⟨h1,h2,h3⟩,rfl⟩:=sQ h;refine OpR.sliceRow k p.toNat q.toNat hi' hd hie hsz hx hb (hlo.bd (m:=0) h1) ?_ (by omega) (by rw[List.length_map]; omega);have:=hhi.bd (m:=l.length) (by omega);rwa[List.length_map]
theorem OpR.lenF {x:Operand} {t1:TypeId} {i:TI} {e0:TypeId} {sz:Nat} (f:α→Dat) {l:List α} (h:Src sl ow x sz (l.map f)) (hi:lkT X.tab t1=some i) (hd:i.desc = .slice e0) :
 OpR X (.call { callee:=.builtin .len,args:=#[x],argTypes:=#[t1] }) sl ow (fun _=>.val (.int .i64 l.length)) (fun _=>ow):=.of_val fun G a w ok hr kn dst ty pos after g=>by
 have u1:=zL (X.tok _ _ hi) w;rw[hd] at u1;have e1:∃ A c,a.eval x = .slice A l.length c:=by
  rcases h.run hr kn with ⟨h0,A,c,e⟩|⟨pa,c,_,e,_⟩
  ·have:l=[]:=by simpa using h0
   subst this; exact⟨A,c,e⟩
  ·rw[List.length_map] at e; exact⟨_,c,e⟩
 obtain⟨A,c,e1⟩:=e1;refine⟨undef,.int .i64 l.length,w,ok,?_,hr,.val rfl,Stay.refl _ _⟩;simp[execOp,resolve,invoke,builtin,Builtin.len_,u1,e1,goInt]
end
end Go.Sm
