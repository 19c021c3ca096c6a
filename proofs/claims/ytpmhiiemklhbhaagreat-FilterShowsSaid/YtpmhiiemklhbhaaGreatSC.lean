import Derived.Test.YtpmhiiemklhbhaaGreatSB
import Derived.WalkKit
import Derived.ProofKit
import Derived.OpenShut
import Derived.ShutString
import Derived.ChangeOld
import Derived.Below
import Derived.SizedLaws
import Derived.WideKeyArgs
import Derived.Deep.Slices
set_option linter.unusedVariables false
namespace Go.Sm
open Go.RowKit Go.ChangeShapes Go.WideShapes
abbrev OkW (w:World):Nat→Prop:=fun b=>b<w.heap.size
structure OE (w:World) (ds:List Dat) (cs:List Value):Prop where
  enc:EncL w (OkW w) ds cs
  one:∀ v∈cs,one v=true
def Opens {α:Type} (P:Program) (t:TypeId) (e:α→Dat) (wf:α→Prop):Prop:=
 ∀ (H:Type) (enc:TypeId × Value→H) (w:World) (sp:Nat→Bool) (held:Bool) (n:Nat) (cs:List Value) (x:DataW H × List MemPlace),DataW.trod enc P w 0 sp held n t cs=some x→∃ a,wf a∧(e a).cells.length=P.cellsOf t∧OE w (e a).cells cs
section
variable {P:Program} {t:TypeId}
theorem OE.one1 {w:World} {d:Dat} {v:Value} (h:Enc w (OkW w) d v) (h1:Go.Sm.one v=true):OE w [d] [v]:=⟨.cons h .nil,by simpa using h1⟩
theorem Opens.int {k:IntKind} (ht:P.underlying t=some (.int k)) (hc:P.cellsOf t=1):Opens P t (eI k) (fun a=>(Lit.int k a).wf=true):=fun H enc w sp held n cs x h=>by
 obtain⟨a,rfl,rfl,hw⟩:=DataW.trod_int ht h;exact⟨a,hw,by rw[hc]; rfl,.one1 (.val rfl) rfl⟩
theorem Opens.bool (ht:P.underlying t=some .bool) (hc:P.cellsOf t=1):Opens P t eB (fun _=>True):=fun H enc w sp held n cs x h=>by
 obtain⟨a,rfl,rfl⟩:=DataW.trod_bool ht h;exact⟨a,trivial,by rw[hc]; rfl,.one1 (.val rfl) rfl⟩
theorem Opens.str (ht:P.underlying t=some .string) (hc:P.cellsOf t=1):Opens P t eS (fun a=>a.length≤maxLen):=fun H enc w sp held n cs x h=>by
 obtain⟨s,rfl,rfl,hs⟩:=DataW.trod_string ht h;refine⟨s.data.toList,by simpa using hs,by rw[hc]; rfl,?_⟩;show OE w [.val (.string _)] _;rw[bs_data];exact .one1 (.val rfl) rfl
theorem encC_of {w:World}:∀ {ds:List Dat} {cs:List Value} {a:Addr},OE w ds cs→(∀ j v,cs[j]? = some v→w.cell? (a.add j)=some v)→EncC w (OkW w) a ds
 | [],[],_,_,_=>.nil
 | d::ds,v::cs,a,⟨.cons h hr,h1⟩,hc=>by
  have h0:=hc 0 v rfl;rw[add_zero'] at h0;have hb:a.block<w.heap.size∧a.spot=none:=by
   unfold World.cell? at h0;split at h0
   ·rename_i hh;split at h0
    ·cases h0
    ·rename_i hs;refine⟨?_,by simpa using hs⟩;by_cases hlt:a.block<w.heap.size
     ·exact hlt
     ·rw[Array.getElem?_eq_none (by omega)] at hh; cases hh
   ·cases h0
  exact .cons hb.1 hb.2 h0 (h1 v List.mem_cons_self) h (encC_of ⟨hr,fun u hu=>h1 u (List.mem_cons_of_mem _ hu)⟩ (fun j u hj=>by
   rw[add_add,Nat.add_comm 1 j]; exact hc (j+1) u hj))
theorem cells?_get {w:World} {b:Nat} {a:Addr} {n:Nat} {cs:List Value} (h:w.cells? b a n=some cs):∀ j v,cs[j]? = some v→w.cell? (a.add j)=some v:=fun j v hj=>by
 have:=(World.cells?_some h).2.2;have hlen:=(World.cells?_some h).2.1;have hlt:=(List.getElem?_eq_some_iff.1 hj).1;rw[← hj];exact this j (by omega)
theorem Opens.slice {α:Type} {el:TypeId} {e:α→Dat} {wf:α→Prop} {sz:Nat} (ho:Opens P el e wf) (ht:P.underlying t=some (.slice el)) (hc:P.cellsOf t=1) (hz:P.cellsOf el=sz) :
 Opens P t (fun l:List α=>.sl sz (l.map e)) (fun l=>l.length≤maxLen∧∀ a∈l,wf a):=fun H enc w sp held n cs x h=>by
 subst hz;rcases Go.Deep.open_slice ht h with ⟨rfl,_⟩|⟨a,len,cap,m,k,D,Pl,rfl,hb,hl,hm,hmm,_,hx⟩
 ·exact⟨[],⟨by simp,by simp⟩,by rw[hc]; rfl,.one1 .slnil rfl⟩
 ·have key:∀ i,i≤len→∃ l:List α,l.length=i∧(∀ a∈l,wf a)∧EncS w (OkW w) (P.cellsOf el) (a.add ((len-i)*P.cellsOf el)) (l.map e):=by
   intro i
   induction i with
   | zero=>intro _; exact⟨[],rfl,by simp,.nil⟩
   | succ i ih=>
    intro hi;obtain⟨l,h1,h2,h3⟩:=ih (by omega);obtain⟨cs',g1,g2⟩:=hx (len-(i+1)) (by rw[hmm]; split <;> omega);obtain⟨y,g3,g4,g5⟩:=ho H enc w sp held k cs' _ g2;refine⟨y::l,by simp[h1],by simpa using ⟨g3,h2⟩,.cons g4 (encC_of g5 (cells?_get g1)) ?_⟩;rw[add_add];have:(len-(i+1))*P.cellsOf el+P.cellsOf el=(len-i)*P.cellsOf el:=by
     rw[show len-i=(len-(i+1))+1 by omega,Nat.add_mul,Nat.one_mul]
    rw[this]; exact h3
  obtain⟨l,h1,h2,h3⟩:=key len (Nat.le_refl _);rw[Nat.sub_self,Nat.zero_mul,add_zero'] at h3;exact⟨l,⟨by omega,h2⟩,by rw[hc]; rfl,.one1 (.sl (by simpa using h1) hl h3) rfl⟩
theorem OE.nil0 {w:World} {cs:List Value} {o:Nat} (h:cs.length≤o):OE w [] (cs.drop o):=by
 rw[List.drop_eq_nil_of_le h]; exact⟨.nil,by simp⟩
theorem OE.chain {w:World} {ds ds':List Dat} {cs:List Value} {o z o':Nat} (h:OE w ds ((cs.drop o).take z)) (ho:o'=o+z) (hr:OE w ds' (cs.drop o')):OE w (ds++ds') (cs.drop o):=by
 subst ho;have e:cs.drop o=(cs.drop o).take z++cs.drop (o+z):=by rw[← List.drop_drop,List.take_append_drop]
 rw[e];exact⟨h.enc.append hr.enc,fun v hv=>(List.mem_append.1 hv).elim (h.one v) (hr.one v)⟩
theorem Opens.field {H:Type} {enc:TypeId × Value→H} {w:World} {sp:Nat→Bool} {held:Bool} {n:Nat} {cs:List Value} {xs:List (DataW H × List MemPlace)} {fs:Array Field} (hf:∀ (i:Nat) (f:Field),fs[i]? = some f→DataW.trod enc P w 0 sp held n f.type ((cs.drop f.offset).take (P.cellsOf f.type))=xs[i]?)
 (hxs:xs.length=fs.size) {α:Type} {e:α→Dat} {wf:α→Prop} {f:Field} (i:Nat) (hi:fs[i]? = some f) (ho:Opens P f.type e wf) {o z:Nat} (hoff:f.offset=o) (hz:P.cellsOf f.type=z):∃ a,wf a∧(e a).cells.length=z∧OE w (e a).cells ((cs.drop o).take z):=by
 subst hoff hz;have h:=hf i f hi;have hlt:i<xs.length:=by rw[hxs]; exact (Array.getElem?_eq_some_iff.1 hi).1
 rw[List.getElem?_eq_getElem hlt] at h;exact ho H enc w sp held n _ _ h
theorem Opens.top1 {α:Type} {e:α→Dat} {wf:α→Prop} (ho:Opens P t e wf) (h1:∀ a,(e a).cells=[e a]) {H:Type} {enc:TypeId × Value→H} {w:World} {sp:Nat→Bool} {held:Bool} {v:Value} {d:DataW H} {p:List MemPlace} (hv:v.cells.toList=[v]) (h:DataW.Trod enc P w 0 sp held t v d p):∃ a,wf a∧Enc w (OkW w) (e a) v:=by
 obtain⟨n,hn⟩:=h;obtain⟨a,g1,_,g2⟩:=ho H enc w sp held n _ _ hn;rw[hv,h1] at g2;cases g2.enc with
 | cons h _=>exact⟨a,g1,h⟩
theorem Opens.topInt {α:Type} {e:α→Dat} {wf:α→Prop} (ho:Opens P t e wf) (h1:∀ a,(e a).cells=[e a]) {k:IntKind} (ht:P.underlying t=some (.int k)) {H:Type} {enc:TypeId × Value→H} {w:World} {sp:Nat→Bool} {held:Bool} {v:Value} {d:DataW H} {p:List MemPlace} {r:Reach} {b0:Nat} (hv:Value.okWide P w r b0 t v) (h:DataW.Trod enc P w 0 sp held t v d p):∃ a,wf a∧Enc w (OkW w) (e a) v:=by
 obtain⟨n,rfl⟩:=okWide_int ht hv;exact ho.top1 h1 rfl h
theorem Opens.topStr {α:Type} {e:α→Dat} {wf:α→Prop} (ho:Opens P t e wf) (h1:∀ a,(e a).cells=[e a]) (ht:P.underlying t=some .string) {H:Type} {enc:TypeId × Value→H} {w:World} {sp:Nat→Bool} {held:Bool} {v:Value} {d:DataW H} {p:List MemPlace} {r:Reach} {b0:Nat} (hv:Value.okWide P w r b0 t v) (h:DataW.Trod enc P w 0 sp held t v d p):∃ a,wf a∧Enc w (OkW w) (e a) v:=by
 obtain⟨n,rfl⟩:=okWide_string ht hv;exact ho.top1 h1 rfl h
theorem Opens.topSlice {α:Type} {e:α→Dat} {wf:α→Prop} (ho:Opens P t e wf) (h1:∀ a,(e a).cells=[e a]) {el:TypeId} (ht:P.underlying t=some (.slice el)) {H:Type} {enc:TypeId × Value→H} {w:World} {sp:Nat→Bool} {held:Bool} {v:Value} {d:DataW H} {p:List MemPlace} {r:Reach} {b0:Nat} (hv:Value.okWide P w r b0 t v) (h:DataW.Trod enc P w 0 sp held t v d p):∃ a,wf a∧Enc w (OkW w) (e a) v:=by
 obtain⟨A,l,c,rfl⟩:=okWide_slice ht hv;exact ho.top1 h1 rfl h
theorem trodAll_stays {H:Type} {enc:TypeId × Value→H} (hl:laidOutB P=true) {W W':World} (hb:Go.RowKit.Below W.heap.size W W'):∀ {ts:List TypeId} {vs:List Value} {ds:List (DataW H)} {ps:List MemPlace},(∀ t∈ts,P.readableRec t=true∧t<P.types.size) →
 DataW.TrodAll enc P W 0 (fun _=>true) true ts vs ds ps→DataW.TrodAll enc P W' 0 (fun b=>decide (b<W.heap.size)) true ts vs ds ps
 | [],vs,ds,ps,_,h=>by
  obtain⟨rfl,rfl,rfl⟩:=trodAll_nil h;exact trodAll_mk0
 | t::ts,vs,ds,ps,hr,h=>by
  obtain⟨v,vs',d,ds',p,q,rfl,rfl,rfl,h1,h2⟩:=trodAll_cons h;have hlt:∀ x∈p,x.block<W.heap.size:=by
   obtain⟨n,hn⟩:=h1;exact DataW.trod_lt n _ _ _ hn
  exact trodAll_cons_mk (Go.WideElems.Trod_stays hl (hr t List.mem_cons_self).1 (hr t List.mem_cons_self).2 h1 (fun x hx=>hb.same (hlt x hx)) (fun x hx=>decide_eq_true (hlt x hx))) (trodAll_stays hl hb (fun t' ht'=>hr t' (List.mem_cons_of_mem _ ht')) h2)
end
theorem CallF.row {X:Prg} {f:FuncId} {args:List Dat} (h:CallF X f args [] (fun _=>.val (.bool true)) (fun _=>[])) {w:World} {vs:List Value} (he:EncL w (OkW w) args vs) (hgl:GlOk w (OkW w)) :
 Calls X.P f vs.toArray w fun e w'=>e = .returned (.bool true)∧Go.RowKit.Below w.heap.size w w':=
 (h w vs (OkW w) { own:=fun k o h=>by simp at h,inj:=fun k k' o o' b h=>by simp at h,okf:=fun b hb=>⟨hb,fun k o h=>by simp at h⟩,blt:=fun k o b h=>by simp at h,prot:=fun _ _ _=>rfl,gsz:=Nat.le_refl _,os:=rfl,out:=rfl,tape:=rfl,ok0:=fun _ h=>h,org:=fun _ h=>.inl h,gl:=hgl } he).mono
  fun e w' ⟨v,r,ow',ok',h1,h2,h3,x,h4,_⟩=>by
   subst h1 h4;obtain rfl:=h3.val_inv.1;exact⟨rfl,⟨h2.os,h2.tape,h2.out,h2.gsz,fun b hb=>h2.prot b hb (fun ⟨o,ho,_⟩=>by simp at ho)⟩⟩
end Go.Sm
