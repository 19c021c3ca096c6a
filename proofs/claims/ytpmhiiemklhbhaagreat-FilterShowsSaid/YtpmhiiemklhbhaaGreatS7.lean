import Derived.Test.YtpmhiiemklhbhaaGreatS6
import Derived.OrdersIn
set_option linter.unusedVariables false
namespace Go.Sm
open Go.RowKit
section
variable {P:Program} {o:Oper} {a:Act} {w:World} {K K':Act→World→Prop} {Q Q':Exit→Act→World→Prop}
theorem OpR.pick {X:Prg} {op:Op} {sl:List (Nat × Dat)} {ow:List Own} {d:Value→Dat} {ow' ow'':Value→List Own} (ks:List Nat) (h:OpR X op sl ow d ow') (hp:∀ x,pickK ks (ow' x)=some (ow'' x)) (hn:nodupK ks=true):OpR X op sl ow d ow'':=
 fun G a w ok hr kn o ho K Qm hK=>h G a w ok hr kn o ho K Qm fun x v w' ok' h1 h2 h3=>hK x v w' ok' (h1.pick (hp x) hn) h2 h3
end
def looks (l:List Oper) (o:Oper):List Nat:=
 (o.op.operands.toList.filterMap fun | .tmp t=>some t|_=>none)++(match o.guard with|some (g,_)=>(match l[g]? with|some og=>og.dst.toList|none=>[])|none=>[])
def bindsN (e:Edge):Bool:=match e.ground with
| .textOnly _ | .gcOnly _=>false
| _=>true
theorem bindsN_eq (e:Edge):Region.binds .any e=bindsN e:=by
 unfold Region.binds bindsN; cases e.ground <;> rfl
def bindN (o:Oper):List Nat:=(o.after.toList.filter bindsN).map fun e=>e.on
def wr:List Oper→Nat→Nat→Option Nat
 | [],_,_=>none
 | o::r,t,i=>match o.dst with
  | some u=>bif Nat.beq u t then some i else wr r t (i+1)
  | none=>wr r t (i+1)
theorem wr_dst:∀ {l:List Oper} {t i j:Nat},wr l t i=some j→∃ o,i≤j∧l[j-i]? = some o∧o.dst=some t
 | o::r,t,i,j,h=>by
  simp only[wr] at h;have go:wr r t (i+1)=some j→∃ o',i≤j∧(o::r)[j-i]? = some o'∧o'.dst=some t:=fun h=>by
   obtain⟨o',h1,h2,h3⟩:=wr_dst h;exact⟨o',by omega,by rw[show j-i=(j-(i+1))+1 by omega]; simpa using h2,h3⟩
  split at h
  ·rename_i u hu;cases hb:Nat.beq u t with
   | true=>
    rw[hb] at h;obtain rfl:=Option.some.inj h;exact⟨o,Nat.le_refl _,by simp,by rw[hu,Nat.eq_of_beq_eq_true hb]⟩
   | false=>rw[hb] at h; exact go h
  ·exact go h
theorem wr_dst0 {l:List Oper} {t j:Nat} (h:wr l t 0=some j):∃ o,l[j]? = some o∧o.dst=some t:=by
 obtain⟨o,_,h1,h2⟩:=wr_dst h; exact⟨o,by simpa using h1,h2⟩
def memN (a:Nat):List Nat→Bool
| []=>false
| b::r=>bif Nat.beq a b then true else memN a r
theorem memN_iff {a:Nat}:∀ {l:List Nat},memN a l=true↔a∈l
 | []=>by simp[memN]
 | b::r=>by
  simp only[memN,List.mem_cons];cases hb:Nat.beq a b with
  | true=>simp[Nat.eq_of_beq_eq_true hb]
  | false=>
   have:a≠b:=fun e=>by subst e; simp at hb
   simp[this,memN_iff]
def drawOk (l:List Oper):Nat→List Oper→Bool
 | _,[]=>true
 | i,o::r=>(match o.dst with|some t=>(match wr l t 0 with|some j=>Nat.beq j i|none=>false)|none=>true)&&((o.after.toList.all fun e=>Nat.blt e.on i || !bindsN e) &&
  (((looks l o).all fun t=>match wr l t 0 with
   | some j=>memN j (bindN o)||(match l[j]? with|some oj=>memN i (bindN oj)|none=>false)
   | none=>true)&&drawOk l (i+1) r))
theorem drawOk_rec {l:List Oper}:∀ (r:List Oper) (i k:Nat) (o:Oper),drawOk l i r=true→r[k]? = some o→(∀ t,o.dst=some t→wr l t 0=some (i+k))∧(∀ e∈o.after.toList,bindsN e=true→e.on<i+k) ∧
 ∀ t∈looks l o,∀ j,wr l t 0=some j→memN j (bindN o)=true∨∃ oj,l[j]? = some oj∧memN (i+k) (bindN oj)=true:=by
 intro r
 induction r with
 | nil=>intro i k o h hk; simp at hk
 | cons p r ih=>
  intro i k o h hk;unfold drawOk at h;rw[Bool.and_eq_true,Bool.and_eq_true,Bool.and_eq_true] at h;obtain⟨h1,h2,h3,h4⟩:=h;cases k with
  | succ k=>
   have:=ih (i+1) k o h4 (by simpa using hk);rwa[show i+1+k=i+(k+1) by omega] at this
  | zero=>
   rw[List.getElem?_cons_zero] at hk;obtain rfl:=Option.some.inj hk;rw[Nat.add_zero];refine⟨fun t ht=>?_,fun e he hbe=>?_,fun t ht j hj=>?_⟩
   ·rw[ht] at h1;dsimp only at h1;cases hj:wr l t 0 with
    | none=>rw[hj] at h1; cases h1
    | some j=>rw[hj] at h1; rw[Nat.eq_of_beq_eq_true h1]
   ·have:=List.all_eq_true.1 h2 e he;simpa [hbe] using this
   ·have:=List.all_eq_true.1 h3 t ht;rw[hj] at this;dsimp only at this;rw[Bool.or_eq_true] at this;rcases this with h|h
    ·exact .inl h
    ·refine .inr ?_;cases hoj:l[j]? with
     | none=>rw[hoj] at h; cases h
     | some oj=>rw[hoj] at h; exact⟨oj,rfl,h⟩
theorem drawOk_at {l r:List Oper} {i k:Nat} {o:Oper} (h:drawOk l i r=true) (hk:r[k]? = some o):(∀ t,o.dst=some t→wr l t 0=some (i+k))∧(∀ e∈o.after.toList,bindsN e=true→e.on<i+k) ∧
 ∀ t∈looks l o,∀ j,wr l t 0=some j→memN j (bindN o)=true∨∃ oj,l[j]? = some oj∧memN (i+k) (bindN oj)=true:=drawOk_rec r i k o h hk
def preL:List Oper→List Nat→List Nat
| [],acc=>acc
| o::os,acc=>preL os (acc++[(bindN o).foldl (fun s m=>s ||| (2 ^ m ||| acc.getD m 0)) 0])
theorem fold_bit (acc:List Nat):∀ (ms:List Nat) (s m:Nat),(ms.foldl (fun s m=>s ||| (2 ^ m ||| acc.getD m 0)) s).testBit m=true→s.testBit m=true∨∃ q∈ms,q=m∨(acc.getD q 0).testBit m=true
 | [],s,m,h=>.inl h
 | q::ms,s,m,h=>by
  rcases fold_bit acc ms _ m h with h|⟨q',h1,h2⟩
  ·simp only[Nat.testBit_or,Bool.or_eq_true] at h;rcases h with h|h|h
   ·exact .inl h
   ·refine .inr ⟨q,List.mem_cons_self,.inl ?_⟩;rw[Nat.testBit_two_pow] at h; exact of_decide_eq_true h
   ·exact .inr ⟨q,List.mem_cons_self,.inr h⟩
  ·exact .inr ⟨q',List.mem_cons_of_mem _ h1,h2⟩
theorem preL_spec {l:List Oper} {D:Nat→Bool} (hcl:∀ j oj,l[j]? = some oj→D j=true→∀ m∈bindN oj,D m=true):∀ (os:List Oper) (acc:List Nat) (pfx:List Oper),l=pfx++os→acc.length=pfx.length →
 (∀ j b,acc[j]? = some b→D j=true→∀ m,b.testBit m=true→D m=true)→∀ j b,(preL os acc)[j]? = some b→D j=true→∀ m,b.testBit m=true→D m=true
 | [],acc,pfx,hl,hlen,h=>h
 | o::os,acc,pfx,hl,hlen,h=>by
  refine preL_spec hcl os _ (pfx++[o]) (by simp[hl]) (by simp[hlen]) (fun j b hj hD m hm=>?_);rcases Nat.lt_or_ge j acc.length with hlt|hge
  ·rw[List.getElem?_append_left hlt] at hj; exact h j b hj hD m hm
  ·have hje:j=acc.length:=by have:=(List.getElem?_eq_some_iff.1 hj).1; simp at this; omega
   subst hje;rw[List.getElem?_append_right (Nat.le_refl _)] at hj;simp at hj; subst hj;rcases fold_bit acc _ 0 m hm with h0|⟨q,hq,h1⟩
   ·simp at h0
   ·have hDq:D q=true:=hcl acc.length o (by rw[hl,hlen]; simp) hD q hq;rcases h1 with rfl|h1
    ·exact hDq
    ·rw[List.getD_eq_getElem?_getD] at h1;cases hg:acc[q]? with
     | none=>rw[hg] at h1; simp at h1
     | some b=>rw[hg] at h1; exact h q b hg hDq m h1
theorem preL_less {l:List Oper} (hb:∀ (i:Nat) (o:Oper),l[i]? = some o→∀ q∈bindN o,q<i):∀ (os:List Oper) (acc:List Nat) (pfx:List Oper),l=pfx++os→acc.length=pfx.length→(∀ (j b:Nat),acc[j]? = some b→∀ m,b.testBit m=true→m<j)→∀ (j b:Nat),(preL os acc)[j]? = some b→∀ m,b.testBit m=true→m<j:=by
 intro os
 induction os with
 | nil=>intro acc pfx _ _ h; exact h
 | cons o os ih=>
  intro acc pfx hl hlen h;refine ih _ (pfx++[o]) (by simp[hl]) (by simp[hlen]) (fun j b hj m hm=>?_);rcases Nat.lt_or_ge j acc.length with hlt|hge
  ·rw[List.getElem?_append_left hlt] at hj; exact h j b hj m hm
  ·have hje:j=acc.length:=by have:=(List.getElem?_eq_some_iff.1 hj).1; simp at this; omega
   subst hje;rw[List.getElem?_append_right (Nat.le_refl _)] at hj;simp at hj; subst hj;rcases fold_bit acc _ 0 m hm with h0|⟨q,hq,h1⟩
   ·simp at h0
   ·have hlo:l[pfx.length]? = some o:=by rw[hl]; simp
    have hqlt:=hb _ _ hlo q hq;rcases h1 with rfl|h1
    ·omega
    ·rw[List.getD_eq_getElem?_getD] at h1;cases hg:acc[q]? with
     | none=>rw[hg] at h1; simp at h1
     | some b=>rw[hg] at h1; have:=h q b hg m h1; omega
def ins (i:Nat) (D:Nat→Bool):Nat→Bool:=fun j=>bif Nat.beq i j then true else D j
def upd (env:Nat→Value) (i:Nat) (x:Value):Nat→Value:=fun j=>bif Nat.beq i j then x else env j
theorem beqN (a b:Nat):Nat.beq a b=decide (a=b):=by
 cases h:Nat.beq a b
 ·exact (decide_eq_false (fun e=>by subst e; rw[Nat.beq_refl] at h; cases h)).symm
 ·exact (decide_eq_true (Nat.eq_of_beq_eq_true h)).symm
theorem ins_self (i:Nat) (D:Nat→Bool):ins i D i=true:=by simp[ins]
theorem ins_ne {i j:Nat} (D:Nat→Bool) (h:i≠j):ins i D j=D j:=by simp[ins,beqN,h]
section
variable {X:Prg} {n:Nat} {Q:Exit→St→Prop} {l:List Oper} {base:List (Nat × Dat)} {vals:(Nat→Value)→List Dat} {OW:(Nat→Bool)→(Nat→Value)→List Own} {pre:List Nat}
def kn1 (l:List Oper) (vs:List Dat) (base:List (Nat × Dat)) (bs:List Nat):List Nat→List (Nat × Dat)
 | []=>[]
 | t::ts=>match wr l t 0 with
  | some j=>bif memN j bs then (match vs[j]? with|some d=>(t,d)::kn1 l vs base bs ts|none=>kn1 l vs base bs ts) else (match lk base t with|some d=>(t,d)::kn1 l vs base bs ts|none=>kn1 l vs base bs ts)
  | none=>match lk base t with|some d=>(t,d)::kn1 l vs base bs ts|none=>kn1 l vs base bs ts
def knS (l:List Oper) (vs:List Dat) (base:List (Nat × Dat)) (o:Oper):List (Nat × Dat):=kn1 l vs base (bindN o) (looks l o)
def slS (l:List Oper) (vs:List Dat) (base:List (Nat × Dat)) (D:Nat→Bool) (t:Nat):Option Dat:=
 match wr l t 0 with
| some j=>bif D j then vs[j]? else lk base t
| none=>lk base t
def slE (l:List Oper) (vs:List Dat) (base:List (Nat × Dat)) (t:Nat):Option Dat:=match wr l t 0 with
| some j=>vs[j]?
| none=>lk base t
inductive Want (l:List Oper) (kn:List (Nat × Dat)) (o:Oper):Bool→Prop
  | plain (h:o.guard=none):Want l kn o true
  | bool {j tj:Nat} {b c:Bool} {oj:Oper} (hg:o.guard=some (j,c)) (hj:l[j]? = some oj) (hd:oj.dst=some tj) (hv:lk kn tj=some (.val (.bool b))) {r:Bool} (hr:(b==c)=r):Want l kn o r
  | unit {j tj:Nat} {c:Bool} {oj:Oper} (hg:o.guard=some (j,c)) (hj:l[j]? = some oj) (hd:oj.dst=some tj) (hv:lk kn tj=some (.tup [])):Want l kn o false
structure OpS (X:Prg) (l:List Oper) (vals:(Nat→Value)→List Dat) (OW:(Nat→Bool)→(Nat→Value)→List Own) (base:List (Nat × Dat)) (pre:List Nat) (i:Nat) (o:Oper) (yes:Bool) (D:Nat→Bool) (env:Nat→Value):Prop where
  want:Want l (knS l (vals env) base o) o yes
  run:yes=true→OpR X o.op (knS l (vals env) base o) (OW D env) (fun x=>((vals (upd env i x))[i]?).getD .dead) (fun x=>OW (ins i D) (upd env i x))
  pass:yes=false→(vals env)[i]? = some (.tup [])∧OW (ins i D) env=OW D env
structure At (l:List Oper) (pre:List Nat) (i:Nat) (D:Nat→Bool):Prop where
  yes:∀ j b,pre[i]? = some b→b.testBit j=true→D j=true
  no:∀ j b,pre[j]? = some b→b.testBit i=true→D j=false
  me:D i=false
  closed:∀ {i:Nat},D i=true→∀ b,pre[i]? = some b→∀ {j:Nat},b.testBit j=true→D j=true
def Same (vals:(Nat→Value)→List Dat) (D:Nat→Bool) (i:Nat):Prop:=∀ env x j,i≠j→D j=true→(vals (upd env i x))[j]? = (vals env)[j]?
structure RepS (G:Gh) (l:List Oper) (vals:(Nat→Value)→List Dat) (OW:(Nat→Bool)→(Nat→Value)→List Own) (base:List (Nat × Dat)) (n:Nat) (D:Nat→Bool) (env:Nat→Value) (a:Act) (w:World) (ok:Nat→Prop):Prop where
  rb:RepB G (OW D env) w ok
  hd:Marks G a w ok
  hs:n≤a.tmps.size
  sl:∀ (t:Nat) (d:Dat),slS l (vals env) base D t=some d→t<n∧Enc w ok d (a.tmps.getD t undef)
theorem kn1_mem {vs:List Dat} {bs:List Nat}:∀ {ts:List Nat} {t:Nat} {d:Dat},lk (kn1 l vs base bs ts) t=some d→t∈ts∧(match wr l t 0 with|some j=>(memN j bs=true∧vs[j]? = some d)∨(memN j bs=false∧lk base t=some d)|none=>lk base t=some d)
 | [],t,d,h=>by simp[kn1,lk] at h
 | u::ts,t,d,h=>by
  have go:lk (kn1 l vs base bs ts) t=some d→t∈u::ts∧_:=fun h=>⟨List.mem_cons_of_mem _ (kn1_mem h).1,(kn1_mem h).2⟩;simp only[kn1] at h;split at h
  ·rename_i j hj;cases hm:memN j bs with
   | true=>
    rw[hm] at h;simp only[cond_true] at h;split at h
    ·rename_i e he;rw[lk_cons] at h;split at h
     ·rename_i e'; subst e';obtain rfl:=Option.some.inj h;exact⟨List.mem_cons_self,by rw[hj]; exact .inl ⟨hm,he⟩⟩
     ·exact go h
    ·exact go h
   | false=>
    rw[hm] at h;simp only[cond_false] at h;split at h
    ·rename_i e he;rw[lk_cons] at h;split at h
     ·rename_i e'; subst e';obtain rfl:=Option.some.inj h;exact⟨List.mem_cons_self,by rw[hj]; exact .inr ⟨hm,he⟩⟩
     ·exact go h
    ·exact go h
  ·rename_i hj;split at h
   ·rename_i e he;rw[lk_cons] at h;split at h
    ·rename_i e'; subst e';obtain rfl:=Option.some.inj h;exact⟨List.mem_cons_self,by rw[hj]; exact he⟩
    ·exact go h
   ·exact go h
theorem RepS.kn {G:Gh} {D:Nat→Bool} {env:Nat→Value} {a:Act} {w:World} {ok:Nat→Prop} (hr:RepS G l vals OW base n D env a w ok) (hok:drawOk l 0 l=true) {i:Nat} {o:Oper} (hi:l[i]? = some o) (hpre:∀ j∈bindN o,D j=true) (hpost:∀ j oj,l[j]? = some oj→i∈bindN oj→D j=false) :
 Rep G ⟨knS l (vals env) base o,OW D env,n⟩ a w ok where
 toRepB:=hr.rb
 hd:=hr.hd
 hs:=hr.hs
 sl:=fun t d ht=>by
  obtain⟨h1,h2⟩:=kn1_mem ht;refine hr.sl t d ?_;unfold slS;have h3:=(drawOk_at hok hi).2.2 t h1;rw[Nat.zero_add] at h3;cases hj:wr l t 0 with
  | none=>rw[hj] at h2; exact h2
  | some j=>
   rw[hj] at h2;dsimp only at h2 ⊢;rcases h2 with ⟨h4,h5⟩|⟨h4,h5⟩
   ·rw[hpre j (memN_iff.1 h4)]; exact h5
   ·rcases h3 j hj with h6|⟨oj,h6,h7⟩
    ·rw[h4] at h6; cases h6
    ·rw[hpost j oj h6 (memN_iff.1 h7)]; exact h5
theorem want_run {G:Gh} {S:St} {a:Act} {w:World} {ok:Nat→Prop} (hr:Rep G S a w ok) {o:Oper} {b:Bool} (h:Want l S.sl o b):Region.wanted o (yielded l.toArray a.tmps)=b:=by
 cases h with
 | plain h=>simp[Region.wanted,h]
 | bool hg hj hd hv hb=>
  have hy:=yield_bool (ops:=l.toArray) hr (by simpa using hj) hd hv;subst hb;simp[Region.wanted,hg,hy]
 | unit hg hj hd hv=>
  have hy:=yield_none (ops:=l.toArray) hr (by simpa using hj) hd hv;simp[Region.wanted,hg,hy]
theorem S_step {G:Gh} {D:Nat→Bool} {env:Nat→Value} {a:Act} {w:World} {ok:Nat→Prop} {i:Nat} {o:Oper} {yes:Bool} (hok:drawOk l 0 l=true) (hi:l[i]? = some o) (hlen:∀ env,(vals env).length=l.length)
 (hop:OpS X l vals OW base pre i o yes D env) (hsame:Same vals D i)
 (hr:RepS G l vals OW base n D env a w ok) (hb:D i=false) (hpre:∀ j∈bindN o,D j=true) (hpost:∀ j oj,l[j]? = some oj→i∈bindN oj→D j=false)
 (hn:∀ t,o.dst=some t→t<n)
 {K:Act→World→Prop} {Qm:Exit→Act→World→Prop} (hK:∀ a' w' env' ok',RepS G l vals OW base n (ins i D) env' a' w' ok'→K a' w'):wpOpIn X.F 0 X.P l.toArray Qm i K a w:=by
 have hk:=hr.kn hok hi hpre hpost;have hw:=want_run hk hop.want;have hi':l.toArray[i]? = some o:=by simpa using hi
 have hwr:=(drawOk_at hok hi).1;rw[Nat.zero_add] at hwr;have slots:∀ (env':Nat→Value) (w':World) (ok':Nat→Prop) (v:Value),(∀ j,i≠j→D j=true→(vals env')[j]? = (vals env)[j]?)→Stay w w' ok ok'→Enc w' ok' (((vals env')[i]?).getD .dead) v →
  ∀ (t:Nat) (d:Dat),slS l (vals env') base (ins i D) t=some d→t<n∧Enc w' ok' d ((a.put o.dst v).tmps.getD t undef):=by
  intro env' w' ok' v hsm hst he t d ht;unfold slS at ht;cases hj:wr l t 0 with
  | none=>
   rw[hj] at ht;have hne:o.dst≠some t:=fun e=>by rw[hwr t e] at hj; cases hj
   have:=hr.sl t d (by unfold slS; rw[hj]; exact ht);refine⟨this.1,?_⟩;have hg:(a.put o.dst v).tmps.getD t undef=a.tmps.getD t undef:=by
    cases hd:o.dst with
    | none=>rfl
    | some s=>exact getD_set_ne (fun e=>hne (by rw[hd,e]))
   rw[hg]; exact this.2.mono hst
  | some j=>
   rw[hj] at ht;dsimp only at ht;by_cases hji:i=j
   ·subst hji;rw[ins_self] at ht;obtain⟨o',h1,h2⟩:=wr_dst0 hj;rw[hi] at h1; obtain rfl:=Option.some.inj h1;have htn:=hn t h2;refine⟨htn,?_⟩;rw[h2];rw[show (a.put (some t) v).tmps.getD t undef=v from getD_set_self (Nat.lt_of_lt_of_le htn hr.hs)];simp only[cond_true] at ht;rw[ht] at he;exact he
   ·rw[ins_ne D hji] at ht;have hne:o.dst≠some t:=fun e=>by rw[hwr t e] at hj; exact hji (Option.some.inj hj)
    have hold:slS l (vals env) base D t=some d:=by
     unfold slS; rw[hj];dsimp only;cases hD:D j with
     | true=>rw[hD] at ht; simp only[cond_true] at ht ⊢; rw[← hsm j hji hD]; exact ht
     | false=>rw[hD] at ht; exact ht
    have:=hr.sl t d hold;refine⟨this.1,?_⟩;have hg:(a.put o.dst v).tmps.getD t undef=a.tmps.getD t undef:=by
     cases hd:o.dst with
     | none=>rfl
     | some s=>exact getD_set_ne (fun e=>hne (by rw[hd,e]))
    rw[hg]; exact this.2.mono hst
 unfold wpOpIn;rw[hi'];dsimp only;rw[hw];cases yes with
 | true=>
  rw[if_pos rfl];refine hop.run rfl G a w ok hk.toRepB hk.kn o rfl K Qm fun x v w' ok' h1 h2 h3=>hK _ w' (upd env i x) ok' { rb:=h1,hd:=(hr.hd.mono h3).put _ _,hs:=?_,sl:=slots _ w' ok' v (fun j hj hD=>hsame env x j hj hD) h3 h2 }
  ·cases o.dst <;> simpa [Act.put] using hr.hs
 | false=>
  rw[if_neg (by simp)];obtain⟨h1,h2⟩:=hop.pass rfl;refine⟨fun _ _=>trivial,hK _ w env ok { rb:=h2▸hr.rb,hd:=hr.hd.put _ _,hs:=?_,sl:=slots env w ok undef (fun _ _ _=>rfl) (Stay.refl _ _) (by rw[h1]; exact .tup (vs:=[]) .nil) }⟩
  ·cases o.dst <;> simpa [Act.put] using hr.hs
def OpsS (X:Prg) (l:List Oper) (vals:(Nat→Value)→List Dat) (OW:(Nat→Bool)→(Nat→Value)→List Own) (base:List (Nat × Dat)) (pre:List Nat):Nat→List Oper→Prop
| _,[]=>True
| i,o::os=>(∃ yes,∀ D env,At l pre i D→OpS X l vals OW base pre i o yes D env∧Same vals D i)∧OpsS X l vals OW base pre (i+1) os
theorem OpsS.get:∀ {os:List Oper} {k i:Nat} {o:Oper},OpsS X l vals OW base pre k os→os[i]? = some o→∃ yes,∀ D env,At l pre (k+i) D→OpS X l vals OW base pre (k+i) o yes D env∧Same vals D (k+i)
 | [],_,_,_,h,hi=>by simp at hi
 | _::_,_,0,_,h,hi=>by
  simp only[List.getElem?_cons_zero,Option.some.injEq] at hi;subst hi;exact h.1
 | _::os,k,i+1,o,h,hi=>by
  have:=OpsS.get h.2 (i:=i) (by simpa using hi);rwa[show k+1+i=k+(i+1) by omega] at this
def dstLt (n:Nat):List Oper→Bool
 | []=>true
 | o::r=>(match o.dst with|some t=>Nat.blt t n|none=>true)&&dstLt n r
theorem dstLt_at {n:Nat} {l:List Oper}:∀ {i:Nat} {o:Oper},dstLt n l=true→l[i]? = some o→∀ t,o.dst=some t→t<n:=by
 induction l with
 | nil=>intro i o h hi; simp at hi
 | cons p r ih=>
  intro i o h hi t ht;unfold dstLt at h;rw[Bool.and_eq_true] at h;cases i with
  | zero=>
   rw[List.getElem?_cons_zero] at hi;obtain rfl:=Option.some.inj hi;rw[ht] at h;simpa using h.1
  | succ i=>exact ih h.2 (by simpa using hi) t ht
def D0 (m:Nat):Nat→Bool:=fun j=>!(Nat.blt j m)
theorem bind_less (hok:drawOk l 0 l=true) (i:Nat) (o:Oper) (hi:l[i]? = some o) (q:Nat) (hq:q∈bindN o):q<i:=by
 unfold bindN at hq;rw[List.mem_map] at hq;obtain⟨e,he,rfl⟩:=hq;rw[List.mem_filter] at he;have:=(drawOk_at hok hi).2.1 e he.1 he.2;omega
theorem at_of (hok:drawOk l 0 l=true) (hpre:preL l []=pre) {i:Nat} {o:Oper} (hi:l[i]? = some o) {D:Nat→Bool} (hbind:∀ j∈bindN o,D j=true) (hcl:∀ j oj,l[j]? = some oj→D j=true→∀ m∈bindN oj,D m=true) (hnl:D i=false):At l pre i D:=by
 have hsp:=preL_spec (l:=l) (D:=D) hcl l [] [] rfl rfl (fun j b h=>by simp at h);rw[hpre] at hsp;refine⟨fun j b hb hj=>?_,fun j b hb hj=>?_,hnl,fun {i} hi b hb {j} hj=>hsp i b hb hi j hj⟩
 ·have hD':∀ j' oj',l[j']? = some oj'→(ins i D) j'=true→∀ m∈bindN oj',(ins i D) m=true:=by
   intro j' oj' hj' hins m hm;by_cases hmi:i=m
   ·subst hmi; exact ins_self _ _
   ·rw[ins_ne _ hmi];by_cases hji:i=j'
    ·subst hji;rw[hi] at hj'; obtain rfl:=Option.some.inj hj';exact hbind m hm
    ·rw[ins_ne _ hji] at hins;exact hcl j' oj' hj' hins m hm
  have hsp':=preL_spec (l:=l) (D:=ins i D) hD' l [] [] rfl rfl (fun j b h=>by simp at h);rw[hpre] at hsp';have h1:=hsp' i b hb (ins_self _ _) j hj;have hs:=preL_less (bind_less hok) l [] [] rfl rfl (fun j b h=>by simp at h);rw[hpre] at hs;have hne:i≠j:=fun e=>Nat.lt_irrefl _ (e▸hs i b hb j hj);rwa[ins_ne _ hne] at h1
 ·cases hc:D j with
  | false=>rfl
  | true=>rw[hsp j b hb hc i hj] at hnl; cases hnl
theorem T.draw {id:Nat} {ow:List Own} (hm:X.P.follows .mixedOrders=true) (vals:(Nat→Value)→List Dat) (OW:(Nat→Bool)→(Nat→Value)→List Own) (pre:List Nat) (hok:(drawOk l 0 l&&dstLt n l)=true) (hpre:preL l []=pre) (hlen:∀ env,(vals env).length=l.length)
 (h0:∀ env,OW (D0 l.length) env=ow) (hops:OpsS X l vals OW base pre 0 l)
 (hfin:∀ env,∃ sl',(∀ t d,lk sl' t=some d→slE l (vals env) base t=some d)∧Q .normal ⟨sl',OW (fun _=>true) env,n⟩):T X (.region id l.toArray true) ⟨base,ow,n⟩ Q:=fun G a w ok hr=>by
 simp only[Bool.and_eq_true] at hok;obtain⟨hok,hn⟩:=hok;refine wpIn_region_any hm ?_;have hstay:Stay w { w with drawn:=w.drawn+1 } ok ok:=⟨fun _ h=>h,fun _ _=>rfl⟩;have hr0:RepS G l vals OW base n (D0 l.length) (fun _=>undef) a { w with drawn:=w.drawn+1 } ok:=by
  have hg:=hr.toRepB.grow (w':={ w with drawn:=w.drawn+1 }) ⟨rfl,rfl,rfl,Nat.le_refl _,fun _ _ _=>rfl⟩;refine { rb:=by rw[h0]; exact hg,hd:=hr.hd.mono hstay,hs:=hr.hs,sl:=fun t d ht=>?_ };have:lk base t=some d:=by
   unfold slS at ht;cases hj:wr l t 0 with
   | none=>rw[hj] at ht; exact ht
   | some j=>
    rw[hj] at ht;obtain⟨o,h1,_⟩:=wr_dst0 hj;have hlt:=(List.getElem?_eq_some_iff.1 h1).1;have hb:D0 l.length j=false:=by unfold D0; simp[hlt]
    dsimp only at ht;rw[hb] at ht; exact ht
  exact⟨(hr.sl t d this).1,(hr.sl t d this).2.mono hstay⟩
 have key:∀ (fuel:Nat) (listed:Array Bool) (a:Act) (w:World) (env:Nat→Value) (ok:Nat→Prop),listed.size=l.length→RepS G l vals OW base n (fun j=>listed.getD j true) env a w ok →
  (∀ j oj,l[j]? = some oj→listed.getD j true=true→∀ m∈bindN oj,listed.getD m true=true)→((List.range l.length).filter fun j=>!listed.getD j true).length≤fuel→wpAnyIn X.F 0 X.P .any l.toArray (Lift G Q) fuel listed a w:=by
  have hready0:∀ listed:Array Bool,listed.size=l.length→Region.ready .any l.toArray listed=[]→∀ j,j<l.length→listed.getD j true=true:=by
   intro listed hsz hr j
   induction j using Nat.strongRecOn with
   | _ j ih=>
    intro hj;cases hc:listed.getD j true with
    | true=>rfl
    | false=>
     have hmem:j∈Region.ready .any l.toArray listed:=by
      unfold Region.ready;rw[List.mem_filter];refine⟨by simpa using hj,?_⟩;have hj':l.toArray[j]? = some l[j]:=by simp[hj]
      rw[hc,hj'];simp only[Bool.not_false,Bool.true_and,Option.map_some,Option.getD_some];rw[Array.all_eq_true'];intro e he;rw[bindsN_eq];cases hbe:bindsN e with
      | false=>rfl
      | true=>
      have:=(drawOk_at hok (List.getElem?_eq_getElem hj)).2.1 e (by simpa using he) hbe;rw[Nat.zero_add] at this;have h2:=ih e.on this (by omega);have h3:listed.getD e.on false=true:=by
       rw[Array.getD_eq_getD_getElem?] at h2 ⊢;rw[Array.getElem?_eq_getElem (by omega)] at h2 ⊢;exact h2
      simp[h3]
     rw[hr] at hmem; cases hmem
  have hall:∀ (listed:Array Bool),listed.size=l.length→(∀ j,j<l.length→listed.getD j true=true)→(fun j=>listed.getD j true)=fun _=>true:=by
   intro listed hsz h;funext j;by_cases hj:j<l.length
   ·exact h j hj
   ·rw[Array.getD_eq_getD_getElem?,Array.getElem?_eq_none (by omega)]; rfl
  have hdone:∀ (listed:Array Bool) (a:Act) (w:World) (env:Nat→Value) (ok:Nat→Prop),listed.size=l.length→RepS G l vals OW base n (fun j=>listed.getD j true) env a w ok→(∀ j,j<l.length→listed.getD j true=true)→Lift G Q .normal a w:=by
   intro listed a w env ok hsz hr he;rw[hall listed hsz he] at hr;obtain⟨sl',h1,h2⟩:=hfin env;refine⟨⟨sl',OW (fun _=>true) env,n⟩,ok,{ hr.rb with hd:=hr.hd,hs:=hr.hs,sl:=fun t d ht=>hr.sl t d ?_ },h2⟩;have:=h1 t d ht;unfold slE at this;unfold slS;exact this
  intro fuel
  induction fuel with
  | zero=>
   intro listed a w env ok hsz hr hcl hf;have hall':∀ j,j<l.length→listed.getD j true=true:=by
    intro j hj;have:((List.range l.length).filter fun j=>!listed.getD j true)=[]:=List.length_eq_zero_iff.1 (by omega);rw[List.filter_eq_nil_iff] at this;simpa using this j (by simpa using hj)
   have hre:Region.ready .any l.toArray listed=[]:=by
    unfold Region.ready;rw[List.filter_eq_nil_iff];intro j hj;have:=hall' j (by simpa using hj);simp[this]
   exact⟨hre,hdone listed a w env ok hsz hr hall'⟩
  | succ fuel ih=>
   intro listed a w env ok hsz hr hcl hf;refine⟨fun hre=>hdone listed a w env ok hsz hr (hready0 listed hsz hre),fun i hi=>?_⟩;unfold Region.ready at hi;rw[List.mem_filter] at hi;obtain⟨hi1,hi2⟩:=hi;have hlt:i<l.length:=by simpa using hi1
   have hli:l[i]? = some l[i]:=List.getElem?_eq_getElem hlt;have hi':l.toArray[i]? = some l[i]:=by simp[hlt]
   rw[hi'] at hi2;simp only[Option.map_some,Option.getD_some,Bool.and_eq_true,Bool.not_eq_true'] at hi2;obtain⟨hnl,hall2⟩:=hi2;rw[Array.all_eq_true'] at hall2;have hbind:∀ j∈bindN l[i],listed.getD j true=true:=by
    intro j hj;unfold bindN at hj;rw[List.mem_map] at hj;obtain⟨e,he,rfl⟩:=hj;rw[List.mem_filter] at he;have:=hall2 e (by simpa using he.1);rw[bindsN_eq,he.2] at this;simp only[Bool.not_true,Bool.false_or] at this;have hon:=(drawOk_at hok hli).2.1 e he.1 he.2;rw[Nat.zero_add] at hon;rw[Array.getD_eq_getD_getElem?] at this ⊢;rw[Array.getElem?_eq_getElem (by omega)] at this ⊢;exact this
   have hpost:∀ j oj,l[j]? = some oj→i∈bindN oj→listed.getD j true=false:=fun j oj hj hm=>by
    cases hc:listed.getD j true with
    | false=>rfl
    | true=>rw[hcl j oj hj hc i hm] at hnl; cases hnl
   have hat:At l pre i (fun j=>listed.getD j true):=at_of hok hpre hli hbind hcl hnl;obtain⟨yes,hop⟩:=hops.get hli;rw[Nat.zero_add] at hop;obtain⟨hop1,hop2⟩:=hop (fun j=>listed.getD j true) env hat;have hfun:(fun j=>(listed.setIfInBounds i true).getD j true)=ins i (fun j=>listed.getD j true):=by
    funext j;by_cases e:i=j
    ·subst e; rw[ins_self]; simp[Array.getD_eq_getD_getElem?,hsz,hlt]
    ·rw[ins_ne _ e]; simp[Array.getD_eq_getD_getElem?,e]
   refine S_step hok hli hlen hop1 hop2 hr hnl hbind hpost (dstLt_at hn hli) (fun a' w' env' ok' hr'=>ih _ a' w' env' ok' (by simpa using hsz) (by rw[hfun]; exact hr') ?_ ?_)
   ·intro j oj hj hb m hm;have hg:∀ q,(listed.setIfInBounds i true).getD q true=ins i (fun j=>listed.getD j true) q:=fun q=>congrFun hfun q;rw[hg] at hb ⊢;by_cases e:i=m
    ·subst e; exact ins_self _ _
    ·rw[ins_ne _ e];by_cases e':i=j
     ·subst e';rw[hli] at hj;obtain rfl:=Option.some.inj hj;exact hbind m hm
     ·rw[ins_ne _ e'] at hb; exact hcl j oj hj hb m hm
   ·have hg:∀ q,(listed.setIfInBounds i true).getD q true=ins i (fun j=>listed.getD j true) q:=fun q=>congrFun hfun q;have hlt':((List.range l.length).filter fun j=>!(listed.setIfInBounds i true).getD j true).length<((List.range l.length).filter fun j=>!listed.getD j true).length:=by
     have e1:((List.range l.length).filter fun j=>!(listed.setIfInBounds i true).getD j true)=((List.range l.length).filter fun j=>!listed.getD j true).filter fun j=>decide (j≠i):=by
      rw[List.filter_filter];refine List.filter_congr (fun j _=>?_);rw[hg];by_cases e:i=j
      ·subst e; simp[ins_self]
      ·rw[ins_ne _ e]; simp[Ne.symm e]
     rw[e1];refine List.length_filter_lt_length_iff_exists.2 ⟨i,?_,by simp⟩;rw[List.mem_filter];exact⟨by simpa using hlt,by simp[hnl]⟩
    omega
 have hD0:(fun j=>(Array.replicate l.toArray.size false).getD j true)=D0 l.length:=by
  funext j;unfold D0;by_cases hj:j<l.length
  ·simp[Array.getD_eq_getD_getElem?,hj]
  ·have hb:Nat.blt j l.length=false:=by
    cases hc:Nat.blt j l.length
    ·rfl
    ·exact absurd (by simpa using hc) hj
   rw[hb];simp[Array.getD_eq_getD_getElem?,hj]
 refine key _ _ a _ (fun _=>undef) ok (by simp) (by rw[hD0]; exact hr0) ?_ (by
  have:=List.length_filter_le (fun j=>!(Array.replicate l.toArray.size false).getD j true) (List.range l.length);simpa using this)
 intro j oj hj hb;have hlt:=(List.getElem?_eq_some_iff.1 hj).1;simp[Array.getD_eq_getD_getElem?,hlt] at hb
end
end Go.Sm
