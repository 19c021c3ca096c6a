import Derived.Test.YtpmhiiemklhbhaaGreatS7
set_option linter.unusedVariables false
namespace Go.Sm
section
variable {α β σ τ:Type}
def bnd (x:Option α) (f:α→Option β):Option β:=match x with|some a=>f a|none=>none
theorem vt {x:Option α} {f:α→Option β} {r:β} (h:bnd x f=some r):∃ a,x=some a∧f a=some r:=by
 cases x with
 | none=>cases h
 | some a=>exact⟨a,rfl,h⟩
theorem z9 {p:Prop} [Decidable p] {a b:Option β} {r:β} (h:(if p then a else b)=some r):(p∧a=some r)∨(¬ p∧b=some r):=by
 by_cases hp:p
 ·rw[if_pos hp] at h; exact .inl ⟨hp,h⟩
 ·rw[if_neg hp] at h; exact .inr ⟨hp,h⟩
inductive Lp (σ τ:Type) where
  | next (s:σ)
  | done (t:τ)
inductive Ex (σ τ:Type) where
  | brk (s:σ)
  | ret (t:τ)
def wc (f:σ→Option (Lp σ τ)):Nat→σ→Option τ
 | 0,_=>none
 | n+1,s=>match f s with
  | some (.next s')=>wc f n s'
  | some (.done t)=>some t
  | none=>none
theorem zx {f:σ→Option (Lp σ τ)} {n:Nat} {s:σ} {t:τ} (h:wc f n s=some t):∃ m q,n=m+1∧f s=some q∧(match q with | .next s'=>wc f m s'=some t | .done t'=>t'=t):=by
 cases n with
 | zero=>cases h
 | succ m=>
  simp only[wc] at h;cases hq:f s with
  | none=>rw[hq] at h; cases h
  | some q=>
   rw[hq] at h;refine⟨m,q,rfl,rfl,?_⟩;cases q with
   | next s'=>exact h
   | done t'=>exact Option.some.inj h
theorem qg {f:σ→Option (Lp σ τ)}:∀ {n m:Nat} {s:σ} {t:τ},wc f n s=some t→n≤m→wc f m s=some t
 | 0,_,_,_,h,_=>by cases h
 | n+1,0,_,_,_,hm=>by omega
 | n+1,m+1,s,t,h,hm=>by
  simp only[wc] at h ⊢;cases hq:f s with
  | none=>rw[hq] at h; cases h
  | some q=>
   rw[hq] at h;cases q with
   | next s'=>exact qg h (by omega)
   | done t'=>exact h
def tried:Nat:=1000000
open Classical in
noncomputable def loop (f:σ→Option (Lp σ τ)) (s:σ):Option τ:=match wc f tried s with
| some t=>some t
| none=>if h:∃ n t,wc f n s=some t then some (Classical.choose (Classical.choose_spec h)) else none
theorem zw {f:σ→Option (Lp σ τ)} {s:σ} {t:τ} (h:loop f s=some t):∃ n,wc f n s=some t:=by
 unfold loop at h;split at h
 ·rename_i t' ht;obtain rfl:=Option.some.inj h;exact⟨_,ht⟩
 ·split at h
  ·rename_i hx;obtain rfl:=Option.some.inj h;exact⟨_,Classical.choose_spec (Classical.choose_spec hx)⟩
  ·cases h
theorem loop_of {f:σ→Option (Lp σ τ)} {s:σ} {t:τ} {n:Nat} (h:wc f n s=some t):loop f s=some t:=by
 have hx:∃ n t,wc f n s=some t:=⟨n,t,h⟩;unfold loop;split
 ·rename_i t' ht;have h3:=qg h (Nat.le_max_left n tried);have h4:=qg ht (Nat.le_max_right n tried);rw[h3] at h4;exact h4.symm
 ·rw[dif_pos hx];have h2:=Classical.choose_spec (Classical.choose_spec hx);have h3:=qg h (Nat.le_max_left n (Classical.choose hx));have h4:=qg h2 (Nat.le_max_right n (Classical.choose hx));rw[h3] at h4;exact congrArg some (Option.some.inj h4).symm
theorem yI {f:σ→Option (Lp σ τ)} {s s':σ} {t:τ} (h:f s=some (.next s')) (h':loop f s'=some t):loop f s=some t:=by
 obtain⟨n,hn⟩:=zw h';exact loop_of (n:=n+1) (by simp only[wc,h]; exact hn)
theorem zU {f:σ→Option (Lp σ τ)} {s:σ} {t:τ} (h:f s=some (.done t)):loop f s=some t:=loop_of (n:=1) (by simp only[wc,h])
theorem loop_ind {f:σ→Option (Lp σ τ)} (I:σ→Prop) (μ:σ→Nat) (P:τ→Prop) (step:∀ s,I s→(∃ s',f s=some (.next s')∧I s'∧μ s'<μ s)∨(∃ t,f s=some (.done t)∧P t)):∀ {s:σ},I s→∃ t,loop f s=some t∧P t:=by
 have key:∀ n s,I s→μ s=n→∃ t,loop f s=some t∧P t:=by
  intro n
  induction n using Nat.strongRecOn with
  | _ n ih=>
   intro s hs hn;rcases step s hs with ⟨s',h1,h2,h3⟩|⟨t,h1,h2⟩
   ·obtain⟨t,h4,h5⟩:=ih (μ s') (hn▸h3) s' h2 rfl;exact⟨t,yI h1 h4,h5⟩
   ·exact⟨t,zU h1,h2⟩
 exact fun {s} hs=>key _ s hs rfl
def w64 (x:Int):Int:=IntKind.i64.wrap x
theorem zG {x:Int} (h : -9223372036854775808≤x∧x≤9223372036854775807):w64 x=x:=by
 unfold w64 IntKind.wrap;simp only[IntKind.bits,IntKind.signed,Bool.true_and,decide_eq_true_eq,ge_iff_le];split <;> omega
def ub (x:Int):UInt8:=UInt8.ofNat (x % 256).toNat
theorem ub_toNat (x:Int):((ub x).toNat:Int)=x % 256:=by
 unfold ub;have h:0≤x % 256:=by omega
 have h':x % 256<256:=by omega
 rw[UInt8.toNat_ofNat_of_lt' (by show (x % 256).toNat<256; omega)];omega
theorem ub_wrap (x:Int):IntKind.u8.wrap x=((ub x).toNat:Int):=by
 rw[ub_toNat];unfold IntKind.wrap;simp only[IntKind.bits,IntKind.signed,Bool.false_and,Bool.false_eq_true,if_false];show x % 2 ^ 8=_;rfl
def idx (l:List α) (i:Int):Option α:=if 0≤i then l[i.toNat]? else none
theorem ui {l:List α} {i:Int} {a:α} (h:idx l i=some a):0≤i∧l[i.toNat]? = some a:=by
 unfold idx at h;by_cases hi:0≤i
 ·rw[if_pos hi] at h; exact⟨hi,h⟩
 ·rw[if_neg hi] at h; cases h
theorem tq {l:List α} {i:Nat} {a:α} (h:l[i]? = some a):idx l i=some a:=by unfold idx; rw[if_pos (by omega),Int.toNat_natCast,h]
def upd1 (l:List α) (i:Int) (a:α):Option (List α):=if 0≤i∧i.toNat<l.length then some (l.set i.toNat a) else none
def app (by_:Nat) (l m:List α):Option (List α):=if (l.length+m.length)*(by_+1)≤140737488355328 then some (l++m) else none
theorem xI {by_:Nat} {l m:List α} (h:(l.length+m.length)*(by_+1)≤140737488355328):app by_ l m=some (l++m):=if_pos h
theorem app_some {by_:Nat} {l m r:List α} (h:app by_ l m=some r):r=l++m∧l.length+m.length≤maxLen∧(l.length+m.length)*by_≤140737488355328:=by
 unfold app at h;split at h
 ·rename_i hb;refine⟨(Option.some.inj h).symm,?_,?_⟩
  ·have h1:(l.length+m.length)*1≤(l.length+m.length)*(by_+1):=Nat.mul_le_mul_left _ (by omega);simp only[maxLen]; omega
  ·have h1:(l.length+m.length)*by_≤(l.length+m.length)*(by_+1):=Nat.mul_le_mul_left _ (by omega);omega
 ·cases h
def cut (l:List α) (lo hi:Int):Option (List α):=if 0≤lo∧lo≤hi∧hi≤l.length then some ((l.take hi.toNat).drop lo.toNat) else none
theorem sQ {l r:List α} {lo hi:Int} (h:cut l lo hi=some r):(0≤lo∧lo≤hi∧hi≤l.length)∧r=(l.take hi.toNat).drop lo.toNat:=by
 unfold cut at h;split at h
 ·rename_i hc; exact⟨hc,(Option.some.inj h).symm⟩
 ·cases h
theorem bs_size (l:List UInt8):(bs l).size=l.length:=by show l.toArray.size=_; simp
theorem bs_append (l m:List UInt8):bs l++bs m=bs (l++m):=by
 apply ByteArray.ext; apply Array.toList_inj.1; simp[bs]
theorem bs_data (s:ByteArray):bs s.data.toList=s:=by
 apply ByteArray.ext; apply Array.toList_inj.1; simp[bs]
theorem bs_extract (l:List UInt8) (i j:Nat):(bs l).extract i j=bs ((l.take j).drop i):=by
 apply ByteArray.ext; apply Array.toList_inj.1;simp[bs];rw[List.take_drop];by_cases h:i≤j
 ·rw[Nat.add_sub_cancel' h]
 ·rw[List.drop_eq_nil_of_le (by simp; omega),List.drop_eq_nil_of_le (by simp; omega)]
theorem r4 (l:List UInt8):(bs l).toList=l:=by rw[ByteArray.toList_eq]; simp[bs]
def catS (l m:List UInt8):Option (List UInt8):=if l.length+m.length≤9223372036854775807 then some (l++m) else none
theorem catS_some {l m r:List UInt8} (h:catS l m=some r):r=l++m∧l.length+m.length≤9223372036854775807:=by
 unfold catS at h;split at h
 ·rename_i hb; exact⟨(Option.some.inj h).symm,hb⟩
 ·cases h
def vn (x:Value) (i:Nat):Value:=match x with | .tuple vs=>vs.getD i undef|_=>undef
end
section
variable {X:Prg} {ops:Array Oper} {rest:List Oper} {op:Op} {t:Nat} {sl:List (Nat × Dat)} {ow:List Own} {d:Dat} {n:Nat} {Q:Exit→St→Prop} {α:Type}
theorem xh {k:IntKind} {a b:Int} (h:a=b):Dat.val (.int k a)=Dat.val (.int k b):=by rw[h]
theorem boolE {a b:Bool} (h:a=b):Dat.val (.bool a)=Dat.val (.bool b):=by rw[h]
theorem strE {a b:ByteArray} (h:a=b):Dat.val (.string a)=Dat.val (.string b):=by rw[h]
theorem strEq (a b:List UInt8):((bs a).toList==(bs b).toList)=(a==b):=by rw[r4,r4]
theorem xX (e:α→Dat) (l:List α):((l.map e).length:Int)=(l.length:Int):=by rw[List.length_map]
theorem lenS (l:List UInt8):((bs l).size:Int)=(l.length:Int):=by rw[bs_size]
theorem zp {xt:TypeId} {x ix:Operand} {i:TI} {e:TypeId} {ie:TI} {k:IntKind} {j:Int} (f:α→Dat) {l:List α} {a:α} (h:idx l j=some a)
 (hi:lkT X.tab xt=some i) (hd:i.desc = .slice e) (hie:lkT X.tab e=some ie) (hx:ev sl x=some (.sl ie.size (l.map f))) (hj:ev sl ix=some (.val (.int k j))) :
 OpR X (.indexAddr xt x ix) sl ow (fun _=>.nod (f a).cells) (fun _=>ow):=
 OpR.indexAddr hi hd hie hx hj (ui h).1 (f a) (by rw[List.getElem?_map,(ui h).2]; rfl)
theorem wh {xt:TypeId} {x ix:Operand} {i:TI} {l:List UInt8} {k:IntKind} {j:Int} {b:UInt8} (h:idx l j=some b)
 (hx:ev sl x=some (.val (.string (bs l)))) (hj:ev sl ix=some (.val (.int k j))) (hi:lkT X.tab xt=some i) (hd:i.desc = .string):OpR X (.index xt x ix) sl ow (fun _=>.val (.int .u8 b.toNat)) (fun _=>ow):=
 OpR.indexStr hx hj hi hd (ui h).1 b (ui h).2
inductive BdM (sl:List (Nat × Dat)):Option Operand→Int→Int→Prop
  | none {m:Int}:BdM sl none m m
  | some {x:Operand} {k:IntKind} {j m:Int} (h:ev sl x=some (.val (.int k j))):BdM sl (some x) m j
theorem BdM.bd {x:Option Operand} {m:Nat} {j:Int} (h:BdM sl x m j) (h0:0≤j):Bd sl x m j.toNat:=by
 cases h with
 | none=>rw[Int.toNat_natCast]; exact .none
 | some h=>exact .some h h0
theorem wO {xt:TypeId} {x:Operand} {lo hi:Option Operand} {i:TI} {e:TypeId} {ie:TI} (f:α→Dat) {l r:List α} {p q:Int} {sz:Nat} (h:cut l p q=some r)
 (hi':lkT X.tab xt=some i) (hd:i.desc = .slice e) (hie:lkT X.tab e=some ie) (hx:ev sl x=some (.sl ie.size (l.map f))) (hlo:BdM sl lo 0 p) (hhi:BdM sl hi l.length q) (hz:Nat.beq ie.size sz=true) :
 OpR X (.slice xt x lo hi none) sl ow (fun _=>.sl sz (r.map f)) (fun _=>ow):=by
 obtain rfl:=Nat.eq_of_beq_eq_true hz;obtain⟨⟨h1,h2,h3⟩,rfl⟩:=sQ h;refine OpR.slice p.toNat q.toNat hi' hd hie hx (hlo.bd (m:=0) h1) ?_ (by omega) (by rw[List.length_map]; omega) (by rw[← List.map_take,← List.map_drop]);have:=hhi.bd (m:=l.length) (by omega);rwa[List.length_map]
theorem rk {xt:TypeId} {x:Operand} {lo hi:Option Operand} {i:TI} {l r:List UInt8} {p q:Int} (h:cut l p q=some r)
 (hx:ev sl x=some (.val (.string (bs l)))) (hi':lkT X.tab xt=some i) (hd:i.desc = .string) (hlo:BdM sl lo 0 p) (hhi:BdM sl hi l.length q) :
 OpR X (.slice xt x lo hi none) sl ow (fun _=>.val (.string (bs r))) (fun _=>ow):=by
 obtain⟨⟨h1,h2,h3⟩,rfl⟩:=sQ h;refine zk (OpR.sliceStr p.toNat q.toNat hx hi' hd (hlo.bd (m:=0) h1) ?_ (by omega) (by rw[bs_size]; omega)) (strE (bs_extract _ _ _));have:=hhi.bd (m:=l.length) (by omega);rwa[bs_size]
theorem OpR.concatM {t1 t2:TypeId} {x y:Operand} {l m r:List UInt8} (h:catS l m=some r) (hx:ev sl x=some (.val (.string (bs l)))) (hy:ev sl y=some (.val (.string (bs m)))) :
 OpR X (.binOp .add t1 x y t2) sl ow (fun _=>.val (.string (bs r))) (fun _=>ow):=by
 obtain⟨rfl,h1⟩:=catS_some h;exact zk (OpR.concat hx hy (by rw[bs_size,bs_size]; exact h1)) (strE (bs_append l m))
theorem OpR.toBytesM {st dt:TypeId} {x:Operand} {i1 i2 ie:TI} {e:TypeId} {l:List UInt8} (hx:ev sl x=some (.val (.string (bs l)))) (h1:lkT X.tab st=some i1) (hd1:i1.desc = .string) (h2:lkT X.tab dt=some i2) (hd2:i2.desc = .slice e)
 (h3:lkT X.tab e=some ie) (hd3:ie.desc = .int .u8):OpR X (.convert st dt x) sl ow (fun _=>.sl 1 (l.map wt)) (fun _=>ow):=OpR.toBytes hx h1 hd1 h2 hd2 h3 hd3
theorem yz {x:Operand} {t1:TypeId} {i:TI} {e0:TypeId} {v:Value} (f:α→Dat) {l:List α} {sz:Nat} {e:TypeId} (k:Nat) (hx:ev sl x=some (.val v)) (hb:ow[k]? = some (.row v (l.map f) sz e)) (hi:lkT X.tab t1=some i) (hd:i.desc = .slice e0) :
 OpR X (.call { callee:=.builtin .len,args:=#[x],argTypes:=#[t1] }) sl ow (fun _=>.val (.int .i64 l.length)) (fun _=>ow):=zk (OpR.rowLen k hx hb hi hd) (xh (xX f l))
theorem zK {xt:TypeId} {x ix:Operand} {i:TI} {e0:TypeId} {ie:TI} {v:Value} (f:α→Dat) {l:List α} {a:α} {sz:Nat} {e:TypeId} {ki:IntKind} {j:Int} (k:Nat) (h:idx l j=some a) (hx:ev sl x=some (.val v)) (hj:ev sl ix=some (.val (.int ki j))) (hb:ow[k]? = some (.row v (l.map f) sz e))
 (hi:lkT X.tab xt=some i) (hd:i.desc = .slice e0) (hie:lkT X.tab e0=some ie) (hsz:ie.size=sz):OpR X (.indexAddr xt x ix) sl ow (fun _=>.val (.pointer (some ⟨blk v,j.toNat*sz,none⟩))) (fun _=>ow):=
 OpR.rowIndex k hx hj hb hi hd hie hsz (ui h).1 (by rw[List.length_map]; exact (List.getElem?_eq_some_iff.1 (ui h).2).1)
theorem xb {e1:TypeId} {x:Operand} {i:TI} {v:Value} (f:α→Dat) {l:List α} {a:α} {sz g:Nat} {j:Int} {e:TypeId} (k:Nat) (h:idx l j=some a) (hx:ev sl x=some (.val (.pointer (some ⟨blk v,j.toNat*sz+g,none⟩)))) (hi:lkT X.tab e1=some i) (hb:ow[k]? = some (.row v (l.map f) sz e))
 (hd:dropK g (f a).cells (fun r=>partD i r)=some d):OpR X (.load e1 x) sl ow (fun _=>d) (fun _=>ow):=OpR.rowLoad k hx hi hb (by rw[List.getElem?_map,(ui h).2]; rfl) hd
theorem zJ {e1:TypeId} {x:Operand} {i:TI} {v:Value} (f:α→Dat) {l:List α} {a:α} {sz:Nat} {j:Int} {e:TypeId} (k:Nat) (h:idx l j=some a) (hx:ev sl x=some (.val (.pointer (some ⟨blk v,j.toNat*sz,none⟩)))) (hi:lkT X.tab e1=some i) (hb:ow[k]? = some (.row v (l.map f) sz e))
 (hd:partD i (f a).cells=some d):OpR X (.load e1 x) sl ow (fun _=>d) (fun _=>ow):=OpR.rowLoad0 k hx hi hb (by rw[List.getElem?_map,(ui h).2]; rfl) hd
theorem tc {e1:TypeId} {x y:Operand} {i:TI} {v:Value} (f:α→Dat) {l:List α} {a:α} (a':α) {sz g:Nat} {j:Int} {e:TypeId} {cs:List Dat} (k:Nat) (h:idx l j=some a) (hx:ev sl x=some (.val (.pointer (some ⟨blk v,j.toNat*sz+g,none⟩)))) (hy:ev sl y=some d) (hlv:live d=true) (hi:lkT X.tab e1=some i) (hb:ow[k]? = some (.row v (l.map f) sz e))
 (hz:Nat.beq d.cells.length i.size=true) (hd:uQ g d.cells (f a).cells some=some cs) (hd2:(f a').cells=cs) {ow':List Own} (ho:setK k (.row v ((l.set j.toNat a').map f) sz e) ow some=some ow') :
 OpR X (.store e1 x y) sl ow (fun _=>.dead) (fun _=>ow'):=OpR.rowStore k hx hy hlv hi hb hz (by rw[List.getElem?_map,(ui h).2]; rfl) hd hd2 (by rw[List.map_set]) ho
theorem yA {e1:TypeId} {x y:Operand} {i:TI} {v:Value} (f:α→Dat) {l:List α} {a:α} (a':α) {sz:Nat} {j:Int} {e:TypeId} {cs:List Dat} (k:Nat) (h:idx l j=some a) (hx:ev sl x=some (.val (.pointer (some ⟨blk v,j.toNat*sz,none⟩)))) (hy:ev sl y=some d) (hlv:live d=true) (hi:lkT X.tab e1=some i) (hb:ow[k]? = some (.row v (l.map f) sz e))
 (hz:Nat.beq d.cells.length i.size=true) (hd:uQ 0 d.cells (f a).cells some=some cs) (hd2:(f a').cells=cs) {ow':List Own} (ho:setK k (.row v ((l.set j.toNat a').map f) sz e) ow some=some ow') :
 OpR X (.store e1 x y) sl ow (fun _=>.dead) (fun _=>ow'):=OpR.rowStore0 k hx hy hlv hi hb hz (by rw[List.getElem?_map,(ui h).2]; rfl) hd hd2 (by rw[List.map_set]) ho
theorem zH {t1:TypeId} {x y:Operand} {i ie:TI} {e:TypeId} {sz by_:Nat} {v:Value} (f:α→Dat) {l m r:List α} (k:Nat) (h:app by_ l m=some r) (hi:lkT X.tab t1=some i) (hd:i.desc = .slice e) (hie:lkT X.tab e=some ie) (hsz:ie.size=sz) (hbt:ie.bytes=by_) (hz:Nat.beq ie.zero.cells.size ie.size=true)
 (hx:ev sl x=some (.val v)) (hb:ow[k]? = some (.row v (l.map f) sz e)) (hy:ev sl y=some (.sl sz (m.map f))) {ow':Value→List Own} (ho:∀ x,setK k (.row x (r.map f) sz e) ow some=some (ow' x)) :
 OpR X (.call { callee:=.builtin .append,args:=#[x,y],argTypes:=#[t1,t1] }) sl ow (fun x=>.val x) ow':=by
 obtain⟨rfl,h1,h2⟩:=app_some h;exact OpR.append (e0:=e) k hi hd hie hsz hbt hz hx hb (.sl hy) (by rw[List.length_map,List.length_map]; exact h1) (by rw[List.length_map,List.length_map]; exact h2) (by rw[List.map_append]) ho
theorem OpR.appendF {t1:TypeId} {x y:Operand} {i ie:TI} {e:TypeId} {sz by_:Nat} {v:Value} (f:α→Dat) {l m r:List α} (k:Nat) (h:app by_ l m=some r) (hy:Src sl ow y sz (m.map f)) (hi:lkT X.tab t1=some i) (hd:i.desc = .slice e) (hie:lkT X.tab e=some ie) (hsz:ie.size=sz) (hbt:ie.bytes=by_) (hz:Nat.beq ie.zero.cells.size ie.size=true)
 (hx:ev sl x=some (.val v)) (hb:ow[k]? = some (.row v (l.map f) sz e)) {ow':Value→List Own} (ho:∀ x,setK k (.row x (r.map f) sz e) ow some=some (ow' x)) :
 OpR X (.call { callee:=.builtin .append,args:=#[x,y],argTypes:=#[t1,t1] }) sl ow (fun x=>.val x) ow':=by
 obtain⟨rfl,h1,h2⟩:=app_some h;exact OpR.append (e0:=e) k hi hd hie hsz hbt hz hx hb hy (by rw[List.length_map,List.length_map]; exact h1) (by rw[List.length_map,List.length_map]; exact h2) (by rw[List.map_append]) ho
theorem r8 {x:Operand} {sz:Nat} {v:Value} {e:TypeId} (f:α→Dat) {l r:List α} (k:Nat) {lo hi:Int} (h:cut l lo hi=some r) (hx:ev sl x=some (.val (vw v lo.toNat hi.toNat sz))) (hb:ow[k]? = some (.row v (l.map f) sz e)):Src sl ow x sz (r.map f):=by
 obtain⟨⟨h1,h2,h3⟩,rfl⟩:=sQ h;exact .view k _ _ hx hb ⟨by omega,by rw[List.length_map]; omega⟩ (by rw[← List.map_take,← List.map_drop])
end
end Go.Sm
