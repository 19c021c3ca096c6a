import Derived.Test.YtpmhiiemklhbhaaGreatSG
set_option linter.unusedVariables false
namespace Go.Sm
open Go.RowKit Go.Lib
section
variable {X:Prg} {sl:List (Nat × Dat)} {ow:List Own} {w:World} {ok:Nat→Prop} {α:Type}
theorem qI {t:TypeId} {x:Operand} {i:TI} {e:TypeId} (hi:lkT X.tab t=some i) (hd:i.desc = .slice e) (hx:ev sl x=some (.val (.slice none 0 0))):OpR X (.call { callee:=.builtin .cap,args:=#[x],argTypes:=#[t] }) sl ow (fun _=>.val (.int .i64 0)) (fun _=>ow):=.of_run fun a w ok kn dst ty pos after g=>by
 have ex:=(kn x _ hx).val_inv.1;have u1:=zL (X.tok _ _ hi) w;rw[hd] at u1;refine⟨.int .i64 0,?_,.val rfl⟩;simp[execOp,resolve,invoke,builtin,ex,Builtin.cap_,goInt,u1]
theorem OpR.sliceNil {xt:TypeId} {x y:Operand} {i:TI} {e:TypeId} {ie:TI} {k:IntKind} (hi':lkT X.tab xt=some i) (hd:i.desc = .slice e) (hie:lkT X.tab e=some ie) (hx:ev sl x=some (.val (.slice none 0 0))) (hy:ev sl y=some (.val (.int k 0))) :
 OpR X (.slice xt x none (some y) none) sl ow (fun _=>.val (.slice none 0 0)) (fun _=>ow):=.of_run fun a w ok kn dst ty pos after g=>by
 have u1:=zL (X.tok _ _ hi') w;have u2:=xm (X.tok _ _ hie) w;rw[hd] at u1;have ex:=(kn x _ hx).val_inv.1;have b1 (code:BoundsCode):=r6 kn (P:=X.P) hy (Int.le_refl _) (y:=0) (by decide) code;refine⟨.slice none 0 0,?_,.val rfl⟩;simp only[Int.toNat_zero] at b1;simp[execOp,Instr.sliceAt,Instr.slice,u1,u2,ex,Instr.sliceBounds,b1]
def mkg (by_:Nat) (n:Int):Option Unit:=if 0<n∧n*((by_:Int)+1)≤140737488355328 then some () else none
theorem mkg_of {by_:Nat} {n:Int} (h:0<n∧n*((by_:Int)+1)≤140737488355328):mkg by_ n=some ():=if_pos h
def cut0:Value→Value
| .slice a _ c=>.slice a 0 c
| v=>v
theorem run_append_zero {P:Program} (w:World) (t t2 ty e:TypeId) (i:TypeInfo) (z:Value) (ik k:IntKind) (n:Nat) (ht:P.underlying t=some (.slice e)) (ht2:P.underlying t2=some (.int ik)) (hi:P.info? e=some i) (hz:i.zero=some z) (hzs:z.cells.size=i.size)
 (h0:0<n) (h63:n≤maxLen) (h48:n*i.bytes≤140737488355328) :
 (Builtin.append_ #[t,t2] ty #[.slice none 0 0,.int k n]).run P w =
  .ok (.slice (some ⟨w.heap.size,0,none⟩) n (grownCap w n 0 e)) (w.drew.alloc (.cells (Builtin.zeroCells z.cells n++Builtin.zeroCells z.cells (grownCap w n 0 e-n)) e)):=by
 have hn:n≠0:=by omega
 simp only[maxLen] at h63;have hw:IntKind.i64.wrap (n:Int)=n:=zG ⟨by omega,by omega⟩;have h63':¬ (9223372036854775807<(n:Int)):=by omega
 have hneg:¬ ((n:Int)<0):=by omega
 have hb1:¬ (281474976710656<(n:Int)*(i.bytes:Int)):=by
  have:((n*i.bytes:Nat):Int)≤((140737488355328:Nat):Int):=Int.ofNat_le.2 h48;rw[Int.natCast_mul] at this;exact fun h=>absurd (Int.lt_of_lt_of_le h this) (by decide)
 have h48':¬ (281474976710656<Builtin.nextslicecap n 0*i.bytes):=by rw[nextslicecap_zero h0]; omega
 have hne:n*i.size=0→Builtin.zeroCells z.cells n = #[]:=fun h=>by
  apply Array.eq_empty_of_size_eq_zero;rw[size_zeroCells,hzs,h]
 simp[Builtin.append_,run_underlying ht,run_underlying ht2,sizeOf,typeInfo,zeroValue,hi,hz,hn,h63',h48',hw,hneg,hb1,asInt,asIntOf,Question.forced,run_firstCells_none,newRow,grownCap];exact fun h=>by rw[hne h]; simp
theorem OpR.appendZ {t1 t2:TypeId} {x y:Operand} {i i2 ie:TI} {e:TypeId} {sz by_:Nat} {ik k:IntKind} {n:Int} {u:Unit} (h:mkg by_ n=some u) (hi:lkT X.tab t1=some i) (hd:i.desc = .slice e) (hi2:lkT X.tab t2=some i2) (hd2:i2.desc = .int ik) (hie:lkT X.tab e=some ie) (hsz:ie.size=sz) (hbt:ie.bytes=by_) (hz:Nat.beq ie.zero.cells.size ie.size=true)
 (hx:ev sl x=some (.val (.slice none 0 0))) (hy:ev sl y=some (.val (.int k n))) {ow':Value→List Own} (ho:∀ x,appK ow (.row (cut0 x) [] sz e) some=some (ow' x)) :
 OpR X (.call { callee:=.builtin .append,args:=#[x,y],argTypes:=#[t1,t2] }) sl ow (fun x=>.val x) ow':=.of_val fun G a w ok hr kn dst ty pos after g=>by
 subst hsz hbt;have hset:∀ x,ow' x=ow++[.row (cut0 x) [] ie.size e]:=fun x=>(Option.some.inj (rx _ _ _ _ (ho x))).symm;have u1:=(X.tok _ _ hi).desc;have u2:=(X.tok _ _ hi2).desc;obtain⟨xi,i1,i2',i3,i4⟩:=(X.tok _ _ hie).info;rw[hd] at u1;rw[hd2] at u2;unfold mkg at h;split at h
 case isFalse=>cases h
 rename_i hb;obtain⟨hn,hb1⟩:=hb;have hb0:0≤n:=by omega
 have hexp:n*((ie.bytes:Int)+1)=n*(ie.bytes:Int)+n:=by rw[Int.mul_add,Int.mul_one]
 have hm0:0≤n*(ie.bytes:Int):=Int.mul_nonneg hb0 (by omega);obtain⟨m,rfl⟩:∃ m:Nat,n=m:=⟨n.toNat,by omega⟩;have ex:=(kn x _ hx).val_inv.1;have ey:=(kn y _ hy).val_inv.1;have hzz:ie.zero.cells.size=xi.size:=by rw[i2']; exact Nat.eq_of_beq_eq_true hz
 have hmax:m≤maxLen:=by simp only[maxLen]; omega
 have hby:m*xi.bytes≤140737488355328:=by
  rw[i3];refine Int.ofNat_le.1 ?_;rw[Int.natCast_mul];show (m:Int)*(ie.bytes:Int)≤140737488355328;generalize (m:Int)*(ie.bytes:Int)=q at hm0 hexp;omega
 have hrun:=run_append_zero (P:=X.P) w t1 t2 ty e xi ie.zero ik k m u1 u2 i1 i4 hzz (by omega) hmax hby;have hc:Chg w (w.drew.alloc (.cells (Builtin.zeroCells ie.zero.cells m++Builtin.zeroCells ie.zero.cells (grownCap w m 0 e-m)) e)) (fun _=>False):=(Chg.drew w _).trans (Chg.alloc _ _ _);have hst:=hr.stay0 hc;refine⟨.slice (some ⟨w.heap.size,0,none⟩) m (grownCap w m 0 e),_,_,ok,?_,?_,.val rfl,hst⟩
 ·simp only[execOp,resolve,invoke,builtin,Sem.run_bind,Sem.run_pure,Result.andThen_ok,List.map_toArray,List.map_cons,List.map_nil,ex,ey,hrun]
 ·rw[hset];refine hr.newOwn' hc (b:=w.heap.size) (.row (vs:=[]) (us:=(Builtin.zeroCells ie.zero.cells m++Builtin.zeroCells ie.zero.cells (grownCap w m 0 e-m)).toList) rfl (Nat.zero_le _) (grownCap_le_maxLen w m 0 e hmax) ?_ ?_ .nil (fun _ h=>by cases h) (fun _ h=>by cases h)) (fun m hm=>(Option.some.inj hm).symm) (Nat.le_refl _) (by simp)
  ·show (w.drew.alloc _).heap[w.drew.heap.size]? = _;rw[vH w.drew]; simp
  ·have:=grownCap_ge w m 0 e;simp only[List.nil_append,Array.length_toList,Array.size_append,size_zeroCells,hzz,i2',← Nat.add_mul];congr 1; omega
theorem OpR.slice0 {xt:TypeId} {x y:Operand} {i:TI} {e0 e:TypeId} {ie:TI} {k:IntKind} {v:Value} {sz:Nat} {l:List Dat} (p:Nat) (hi':lkT X.tab xt=some i) (hd:i.desc = .slice e0) (hie:lkT X.tab e0=some ie) (hx:ev sl x=some (.val v)) (hy:ev sl y=some (.val (.int k 0))) (hb:ow[p]? = some (.row (cut0 v) l sz e)) :
 OpR X (.slice xt x none (some y) none) sl ow (fun _=>.val (cut0 v)) (fun _=>ow):=.of_val fun G a w ok hr kn dst ty pos after g=>by
 have u1:=zL (X.tok _ _ hi') w;have u2:=xm (X.tok _ _ hie) w;rw[hd] at u1;have ex:=(kn x _ hx).val_inv.1;have hown:=hr.own p _ hb;obtain⟨A,n,c,hv⟩:∃ A n c,v = .slice A n c:=by
  rcases hown.row_inv with ⟨h,_⟩|⟨b,c,vs,us,h,_⟩
  ·cases v <;> simp[cut0] at h
   exact⟨_,_,_,rfl⟩
  ·cases v <;> simp[cut0] at h
   exact⟨_,_,_,rfl⟩
 subst hv;have b1 (code:BoundsCode) (cap:Nat):=r6 kn (P:=X.P) hy (Int.le_refl _) (y:=cap) (Nat.zero_le _) code;simp only[Int.toNat_zero] at b1;refine⟨undef,.slice A 0 c,w,ok,?_,hr,.val rfl,Stay.refl _ _⟩;simp[execOp,Instr.sliceAt,Instr.slice,u1,u2,ex,Instr.sliceBounds,b1];intro _;cases A with
 | none=>rfl
 | some a=>rfl
end
structure NP where
  cs:List Dat
def eNP (x:NP):Dat:=.nod x.cs
def eOP:Option NP→Dat
| none=>.val (.pointer none)
| some x=>.nod x.cs
open Classical in
noncomputable def npOpen {α:Type} (c:α→NP) (x:NP):Option α:=if h:∃ y,c y=x then some h.choose else none
theorem zn.denil {X:Prg} {f:FuncId} {args args':List Dat} {ow:List Own} {d:Value→Dat} {ow':Value→List Own} (h:zn X f args' ow d ow') (hr:ReL RNil args args'):zn X f args ow d ow':=
 fun w vs ok hb he=>h w vs ok hb (EncL.re RNil.enc (fun _ _ h=>h) hr he)
end Go.Sm
