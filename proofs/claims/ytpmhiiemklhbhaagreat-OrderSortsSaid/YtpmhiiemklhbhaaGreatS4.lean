import Derived.Test.YtpmhiiemklhbhaaGreatS3
set_option linter.unusedVariables false
namespace Go.Sm
open Go.RowKit
structure Chg (w w':World) (touched:Nat→Prop):Prop where
  os:w'.os=w.os
  out:w'.output=w.output
  tape:w'.tape=w.tape
  size:w.heap.size≤w'.heap.size
  keep:∀ b,b<w.heap.size→¬ touched b→w'.heap[b]? = w.heap[b]?
theorem Chg.refl (w:World) (touched:Nat→Prop):Chg w w touched:=⟨rfl,rfl,rfl,Nat.le_refl _,fun _ _ _=>rfl⟩
theorem Chg.trans {w w' w'':World} {touched:Nat→Prop} (h:Chg w w' touched) (h':Chg w' w'' touched):Chg w w'' touched:=
 ⟨h'.os.trans h.os,h'.out.trans h.out,h'.tape.trans h.tape,Nat.le_trans h.size h'.size,fun b hb ht=>(h'.keep b (Nat.lt_of_lt_of_le hb h.size) ht).trans (h.keep b hb ht)⟩
theorem Chg.alloc (w:World) (o:Obj) (touched:Nat→Prop):Chg w (w.alloc o) touched:=
 ⟨rfl,rfl,rfl,by simp,fun b hb _=>Below.heap_alloc w o b hb⟩
theorem Chg.drew (w:World) (touched:Nat→Prop):Chg w w.drew touched:=⟨rfl,rfl,rfl,Nat.le_refl _,fun _ _ _=>rfl⟩
theorem Chg.setCell (w:World) {p:Addr} (v:Value) {touched:Nat→Prop} (h:touched p.block):Chg w (w.setCell p v) touched:=
 ⟨rfl,rfl,rfl,by simp[World.setCell],fun b _ hb=>Below.heap_setCell w p v b (fun e=>hb (e▸h))⟩
theorem Chg.imp {w w':World} {p q:Nat→Prop} (h:Chg w w' p) (hpq:∀ b,p b→q b):Chg w w' q:=⟨h.os,h.out,h.tape,h.size,fun b hb hq=>h.keep b hb (fun hp=>hq (hpq b hp))⟩
theorem vH (w:World) (o:Obj):(w.alloc o).heap[w.heap.size]? = some o:=by
 show (w.heap.push o)[w.heap.size]? = _;simp
theorem uj (w:World) (o:Obj):(w.alloc o).heap.size=w.heap.size+1:=by simp
section
variable {G:Gh} {ow:List Own} {w w':World} {ok ok':Nat→Prop}
theorem OwnOk.mono {o:Own} (s:Stay w w' ok ok') (ho:∀ n,o.block=some n→w'.heap[n]? = w.heap[n]?) (h:OwnOk w ok o):OwnOk w' ok' o:=by
 cases h with
 | var hb h h1=>exact .var ((ho _ rfl).trans hb) (h.mono s) h1
 | nil=>exact .nil
 | row hn hc hm hb hz h h1 hs=>exact .row hn hc hm ((ho _ rfl).trans hb) hz (h.mono s) h1 hs
 | lp hb hn hs=>exact .lp ((ho _ rfl).trans hb) hn (fun t d h=>⟨(hs t d h).1,(hs t d h).2.mono s⟩)
 | sit hb=>exact .sit ((ho _ rfl).trans hb)
 | bld hp hb h1=>exact .bld hp ((ho _ rfl).trans hb) h1
 | gone=>exact .gone
theorem RepB.stay (hr:RepB G ow w ok) {p:Nat→Prop} (h:Chg w w' p) (hp:∀ b,ok b→¬ p b):Stay w w' ok ok where
 ho:=fun _ h=>h
 hw:=fun b hb=>h.keep b (hr.okf b hb).1 (hp b hb)
theorem RepB.stay0 (hr:RepB G ow w ok) (h:Chg w w' (fun _=>False)):Stay w w' ok ok:=hr.stay h (fun _ _ h=>h)
theorem RepB.grow (hr:RepB G ow w ok) (h:Chg w w' (fun _=>False)):RepB G ow w' ok where
 own:=fun k o hk=>(hr.own k o hk).mono (hr.stay0 h) (fun n hn=>h.keep n (hr.blt k o n hk hn).1 id)
 inj:=hr.inj
 okf:=fun b hb=>⟨Nat.lt_of_lt_of_le (hr.okf b hb).1 h.size,(hr.okf b hb).2⟩
 blt:=fun k o b hk hb=>⟨Nat.lt_of_lt_of_le (hr.blt k o b hk hb).1 h.size,(hr.blt k o b hk hb).2⟩
 prot:=fun b hb ho=>(h.keep b (Nat.lt_of_lt_of_le hb hr.gsz) id).trans (hr.prot b hb ho)
 gsz:=Nat.le_trans hr.gsz h.size
 os:=h.os.trans hr.os
 out:=h.out.trans hr.out
 tape:=h.tape.trans hr.tape
 ok0:=hr.ok0
 org:=hr.org
 gl:=hr.gl.mono (hr.stay0 h)
theorem sY (ho:∀ b,ok b→ok' b):Stay w w ok ok':={ ho:=ho,hw:=fun _ _=>rfl }
theorem RepB.addOk (hr:RepB G ow w ok) (ho:∀ b,ok b→ok' b) (hn:∀ b,ok' b→ok b∨(b<w.heap.size∧G.w0.heap.size≤b∧∀ (k:Nat) (o:Own),ow[k]? = some o→o.block≠some b)):RepB G ow w ok' where
 own:=fun k o hk=>(hr.own k o hk).mono (sY ho) (fun _ _=>rfl)
 inj:=hr.inj
 okf:=fun b hb=>(hn b hb).elim (hr.okf b) (fun h=>⟨h.1,h.2.2⟩)
 blt:=hr.blt
 prot:=hr.prot
 gsz:=hr.gsz
 os:=hr.os
 out:=hr.out
 tape:=hr.tape
 ok0:=fun b hb=>ho b (hr.ok0 b hb)
 org:=fun b hb=>(hn b hb).elim (hr.org b) (fun h=>.inr (.inl h.2.1))
 gl:=hr.gl.mono (sY ho)
theorem RepB.fresh (hr:RepB G ow w ok) {b:Nat} (hb:w.heap.size≤b):(¬ ok b)∧∀ (k:Nat) (o:Own),ow[k]? = some o→o.block≠some b:=
 ⟨fun h=>by have:=(hr.okf b h).1; omega,fun k o hk h=>by have:=(hr.blt k o b hk h).1; omega⟩
theorem RepB.newOk (hr:RepB G ow w ok) (h:Chg w w' (fun _=>False)) {b:Nat} (hb:w.heap.size≤b) (hb':b<w'.heap.size):RepB G ow w' (fun m=>ok m∨m=b):=
 (hr.grow h).addOk (fun _ h=>.inl h) (fun m hm=>hm.elim .inl fun e=>.inr (e▸⟨hb',Nat.le_trans hr.gsz hb,(hr.fresh hb).2⟩))
theorem RepB.newOwn (hr:RepB G ow w ok) {o:Own} (ho:OwnOk w ok o) (hb:∀ b,o.block=some b→b<w.heap.size∧G.w0.heap.size≤b∧¬ ok b∧∀ (k:Nat) (o':Own),ow[k]? = some o'→o'.block≠some b):RepB G (ow++[o]) w ok:=by
 have split:∀ {k:Nat} {p:Own},(ow++[o])[k]? = some p→ow[k]? = some p∨(k=ow.length∧p=o):=fun {k p} hk=>by
  rcases Nat.lt_or_ge k ow.length with h|h
  ·rw[List.getElem?_append_left h] at hk; exact .inl hk
  ·have hk':k=ow.length:=by
    have:=(List.getElem?_eq_some_iff.1 hk).1;simp at this; omega
   subst hk';rw[List.getElem?_append_right (Nat.le_refl _)] at hk;simp at hk;exact .inr ⟨rfl,hk.symm⟩
 exact {
  own:=fun k p hk=>(split hk).elim (hr.own k p) (fun h=>h.2▸ho)
  inj:=fun k k' p p' b h1 h2 hb1 hb2=>by
   rcases split h1 with e1|⟨e1,f1⟩ <;> rcases split h2 with e2|⟨e2,f2⟩
   ·exact hr.inj k k' p p' b e1 e2 hb1 hb2
   ·subst f2; exact absurd hb1 ((hb b hb2).2.2.2 k p e1)
   ·subst f1; exact absurd hb2 ((hb b hb1).2.2.2 k' p' e2)
   ·rw[e1,e2]
  okf:=fun b h=>⟨(hr.okf b h).1,fun k p hk hp=>(split hk).elim (fun e=>(hr.okf b h).2 k p e hp) (fun e=>by
   obtain⟨_,rfl⟩:=e;exact (hb b hp).2.2.1 h)⟩
  blt:=fun k p b hk hp=>(split hk).elim (fun e=>hr.blt k p b e hp) (fun e=>by
   obtain⟨_,rfl⟩:=e;exact⟨(hb b hp).1,.inl (hb b hp).2.1⟩)
  prot:=hr.prot
  gsz:=hr.gsz
  os:=hr.os
  out:=hr.out
  tape:=hr.tape
  ok0:=hr.ok0
  org:=hr.org
  gl:=hr.gl }
theorem RepB.newOwn' (hr:RepB G ow w ok) (h:Chg w w' (fun _=>False)) {o:Own} {b:Nat} (ho:OwnOk w' ok o) (hob:∀ m,o.block=some m→m=b) (hb:w.heap.size≤b) (hb':b<w'.heap.size):RepB G (ow++[o]) w' ok:=
 (hr.grow h).newOwn ho (fun m hm=>by
  obtain rfl:=hob m hm;exact⟨hb',Nat.le_trans hr.gsz hb,(hr.fresh hb).1,(hr.fresh hb).2⟩)
theorem RepB.upd (hr:RepB G ow w ok) {k:Nat} {o o':Own} (hk:ow[k]? = some o) (hc:Chg w w' (fun b=>o.block=some b)) (ho:OwnOk w' ok o')
 (hb:∀ m,o'.block=some m→o.block=some m∨(w.heap.size≤m∧m<w'.heap.size)):RepB G (ow.set k o') w' ok:=by
 have hst:Stay w w' ok ok:=hr.stay hc (fun b hb h=>(hr.okf b hb).2 k o hk h);have hlt:k<ow.length:=(List.getElem?_eq_some_iff.1 hk).1;have split:∀ {j:Nat} {p:Own},(ow.set k o')[j]? = some p→(k≠j∧ow[j]? = some p)∨(j=k∧p=o'):=fun {j p} hj=>by
  by_cases e:k=j
  ·subst e;rw[List.getElem?_set_self hlt] at hj;exact .inr ⟨rfl,(Option.some.inj hj).symm⟩
  ·rw[List.getElem?_set_ne e] at hj; exact .inl ⟨e,hj⟩
 exact {
  own:=fun j p hj=>by
   rcases split hj with ⟨e,h⟩|⟨_,rfl⟩
   ·exact (hr.own j p h).mono hst (fun n hn=>hc.keep n (hr.blt j p n h hn).1 (fun h'=>e (hr.inj k j o p n hk h h' hn)))
   ·exact ho
  inj:=fun i j p q b h1 h2 b1 b2=>by
   rcases split h1 with ⟨e1,f1⟩|⟨e1,rfl⟩ <;> rcases split h2 with ⟨e2,f2⟩|⟨e2,rfl⟩
   ·exact hr.inj i j p q b f1 f2 b1 b2
   ·rcases hb b b2 with h|h
    ·exact absurd (hr.inj k i o p b hk f1 h b1) e1
    ·have:=(hr.blt i p b f1 b1).1; omega
   ·rcases hb b b1 with h|h
    ·exact absurd (hr.inj k j o q b hk f2 h b2) e2
    ·have:=(hr.blt j q b f2 b2).1; omega
   ·rw[e1,e2]
  okf:=fun b h=>⟨Nat.lt_of_lt_of_le (hr.okf b h).1 hc.size,fun j p hj hp=>by
   rcases split hj with ⟨_,f⟩|⟨_,rfl⟩
   ·exact (hr.okf b h).2 j p f hp
   ·rcases hb b hp with h'|h'
    ·exact (hr.okf b h).2 k o hk h'
    ·have:=(hr.okf b h).1; omega⟩
  blt:=fun j p b hj hp=>by
   rcases split hj with ⟨_,f⟩|⟨_,rfl⟩
   ·exact⟨Nat.lt_of_lt_of_le (hr.blt j p b f hp).1 hc.size,(hr.blt j p b f hp).2⟩
   ·rcases hb b hp with h'|h'
    ·exact⟨Nat.lt_of_lt_of_le (hr.blt k o b hk h').1 hc.size,(hr.blt k o b hk h').2⟩
    ·exact⟨h'.2,.inl (Nat.le_trans hr.gsz h'.1)⟩
  prot:=fun b hb' ho'=>(hc.keep b (Nat.lt_of_lt_of_le hb' hr.gsz) (fun e=>by
   rcases (hr.blt k o b hk e).2 with h|h
   ·omega
   ·exact ho' h)).trans (hr.prot b hb' ho')
  gsz:=Nat.le_trans hr.gsz hc.size
  os:=hc.os.trans hr.os
  out:=hc.out.trans hr.out
  tape:=hc.tape.trans hr.tape
  ok0:=hr.ok0
  org:=hr.org
  gl:=hr.gl.mono hst }
theorem RepB.updStay (hr:RepB G ow w ok) {k:Nat} {o:Own} (hk:ow[k]? = some o) (hc:Chg w w' (fun b=>o.block=some b)):Stay w w' ok ok:=hr.stay hc (fun b hb h=>(hr.okf b hb).2 k o hk h)
theorem RepB.give (hr:RepB G ow w ok) {k:Nat} {o:Own} (hk:ow[k]? = some o):RepB G (ow.set k .gone) w (fun m=>ok m∨o.block=some m):=by
 have hlt:k<ow.length:=(List.getElem?_eq_some_iff.1 hk).1;have split:∀ {j:Nat} {p:Own},(ow.set k .gone)[j]? = some p→(k≠j∧ow[j]? = some p)∨(j=k∧p = .gone):=fun {j p} hj=>by
  by_cases e:k=j
  ·subst e;rw[List.getElem?_set_self hlt] at hj;exact .inr ⟨rfl,(Option.some.inj hj).symm⟩
  ·rw[List.getElem?_set_ne e] at hj; exact .inl ⟨e,hj⟩
 exact {
  own:=fun j p hj=>by
   rcases split hj with ⟨e,h⟩|⟨_,rfl⟩
   ·exact (hr.own j p h).mono (sY fun _ h=>.inl h) (fun _ _=>rfl)
   ·exact .gone
  inj:=fun i j p q b h1 h2 b1 b2=>by
   rcases split h1 with ⟨_,f1⟩|⟨_,rfl⟩ <;> rcases split h2 with ⟨_,f2⟩|⟨_,rfl⟩
   ·exact hr.inj i j p q b f1 f2 b1 b2
   ·cases b2
   ·cases b1
   ·cases b1
  okf:=fun b h=>by
   refine⟨h.elim (fun h=>(hr.okf b h).1) (fun h=>(hr.blt k o b hk h).1),fun j p hj hp=>?_⟩;rcases split hj with ⟨e,f⟩|⟨_,rfl⟩
   ·rcases h with h|h
    ·exact (hr.okf b h).2 j p f hp
    ·exact e (hr.inj k j o p b hk f h hp)
   ·cases hp
  blt:=fun j p b hj hp=>by
   rcases split hj with ⟨_,f⟩|⟨_,rfl⟩
   ·exact hr.blt j p b f hp
   ·cases hp
  prot:=hr.prot
  gsz:=hr.gsz
  os:=hr.os
  out:=hr.out
  tape:=hr.tape
  ok0:=fun b h=>.inl (hr.ok0 b h)
  org:=fun b h=>h.elim (hr.org b) (fun h=>.inr (hr.blt k o b hk h).2)
  gl:=hr.gl.mono (sY fun _ h=>.inl h) }
def uC:List Nat→List Own→Option (List Own)
 | [],_=>some []
 | k::ks,ow=>match ow[k]?,uC ks ow with
  | some o,some r=>some (o::r)
  | _,_=>none
theorem uV:∀ {ks:List Nat} {ow ow':List Own},uC ks ow=some ow'→∀ (i:Nat) (o:Own),ow'[i]? = some o→∃ k,ks[i]? = some k∧ow[k]? = some o
 | [],ow,ow',h,i,o,hi=>by simp[uC] at h; subst h; simp at hi
 | k::ks,ow,ow',h,i,o,hi=>by
  simp only[uC] at h;split at h
  ·rename_i p r h1 h2;obtain rfl:=Option.some.inj h;cases i with
   | zero=>simp at hi; subst hi; exact⟨k,rfl,h1⟩
   | succ i=>exact uV h2 i o (by simpa using hi)
  ·cases h
def wS:List Nat→Bool
| []=>true
| k::ks=>!(ks.any (Nat.beq k))&&wS ks
theorem nodupK_inj:∀ {ks:List Nat},wS ks=true→∀ (i j k:Nat),ks[i]? = some k→ks[j]? = some k→i=j
 | k::ks,h,i,j,m,hi,hj=>by
  simp only[wS,Bool.and_eq_true,Bool.not_eq_true',List.any_eq_false] at h;cases i with
  | zero=>
   cases j with
   | zero=>rfl
   | succ j=>
    simp at hi hj; subst hi;have:=h.1 k (List.mem_of_getElem? hj);simp at this
  | succ i=>
   cases j with
   | zero=>
    simp at hi hj; subst hj;have:=h.1 k (List.mem_of_getElem? hi);simp at this
   | succ j=>rw[nodupK_inj h.2 i j m (by simpa using hi) (by simpa using hj)]
theorem RepB.pick (hr:RepB G ow w ok) {ks:List Nat} {ow':List Own} (hp:uC ks ow=some ow') (hn:wS ks=true):RepB G ow' w ok where
 own:=fun k o hk=>let ⟨_,_,h⟩:=uV hp k o hk; hr.own _ o h
 inj:=fun i j p q b h1 h2 b1 b2=>by
  obtain⟨k,e1,f1⟩:=uV hp i p h1;obtain⟨k',e2,f2⟩:=uV hp j q h2;have:=hr.inj k k' p q b f1 f2 b1 b2;subst this;exact nodupK_inj hn i j k e1 e2
 okf:=fun b h=>⟨(hr.okf b h).1,fun k o hk=>let ⟨_,_,h'⟩:=uV hp k o hk; (hr.okf b h).2 _ o h'⟩
 blt:=fun k o b hk hb=>let ⟨_,_,h'⟩:=uV hp k o hk; hr.blt _ o b h' hb
 prot:=hr.prot
 gsz:=hr.gsz
 os:=hr.os
 out:=hr.out
 tape:=hr.tape
 ok0:=hr.ok0
 org:=hr.org
 gl:=hr.gl
theorem Gst.pick {sl:List (Nat × Dat)} {n:Nat} (ks:List Nat) {ow':List Own} (hp:uC ks ow=some ow') (hn:wS ks=true):Gst ⟨sl,ow,n⟩ ⟨sl,ow',n⟩:=fun G a w ok hr=>
 ⟨ok,{ hr.toRepB.pick hp hn with hd:=hr.hd,hs:=hr.hs,sl:=hr.sl }⟩
end
end Go.Sm
