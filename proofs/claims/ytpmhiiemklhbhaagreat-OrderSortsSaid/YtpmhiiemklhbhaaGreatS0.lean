import Derived.Tactics
import Derived.Below
import Derived.WalkKit
set_option linter.unusedVariables false
namespace Go.Sm
inductive Dat where
  | val (v:Value)
  | sl (sz:Nat) (l:List Dat)
  | slx (sz:Nat) (l:List Dat)
  | agg (cs:List Dat)
  | nod (cs:List Dat)
  | tup (ds:List Dat)
  | fn (f:Fn) (first caps:List Dat)
  | ifc (t:TypeId) (d:Dat)
  | dead
instance:Inhabited Dat:=⟨.dead⟩
def Dat.cells:Dat→List Dat
| .agg cs=>cs
| d=>[d]
def one:Value→Bool
| .agg _ | .tuple _=>false
| _=>true
mutual
inductive Enc (w:World) (ok:Nat→Prop):Dat→Value→Prop
  | val {v:Value} (h:one v=true):Enc w ok (.val v) v
  | slnil {sz:Nat}:Enc w ok (.sl sz []) (.slice none 0 0)
  | sl {sz:Nat} {l:List Dat} {a:Addr} {n c:Nat} (hn:l.length=n) (hc:n≤c) (h:EncS w ok sz a l):Enc w ok (.sl sz l) (.slice (some a) n c)
  | slxnil {sz:Nat}:Enc w ok (.slx sz []) (.slice none 0 0)
  | slx {sz:Nat} {l:List Dat} {a:Addr} {n:Nat} (hn:l.length=n) (h:EncS w ok sz a l):Enc w ok (.slx sz l) (.slice (some a) n n)
  | agg {cs:List Dat} {vs:List Value} (h1:∀ v∈vs,one v=true) (h:EncL w ok cs vs):Enc w ok (.agg cs) (.agg vs.toArray)
  | nod {cs:List Dat} {a:Addr} (h:EncC w ok a cs):Enc w ok (.nod cs) (.pointer (some a))
  | tup {ds:List Dat} {vs:List Value} (h:EncL w ok ds vs):Enc w ok (.tup ds) (.tuple vs.toArray)
  | fn {f:Fn} {fs cs:List Dat} {vs us:List Value} (h1:EncL w ok fs vs) (h2:EncL w ok cs us):Enc w ok (.fn f fs cs) (.func f vs.toArray us.toArray)
  | ifc {t:TypeId} {d:Dat} {v:Value} (h:Enc w ok d v):Enc w ok (.ifc t d) (.iface t v)
  | dead {v:Value}:Enc w ok .dead v
inductive EncL (w:World) (ok:Nat→Prop):List Dat→List Value→Prop
  | nil:EncL w ok [] []
  | cons {d:Dat} {v:Value} {ds:List Dat} {vs:List Value} (h:Enc w ok d v) (hr:EncL w ok ds vs):EncL w ok (d::ds) (v::vs)
inductive EncC (w:World) (ok:Nat→Prop):Addr→List Dat→Prop
  | nil {a:Addr}:EncC w ok a []
  | cons {a:Addr} {d:Dat} {v:Value} {ds:List Dat} (hb:ok a.block) (hs:a.spot=none) (hc:w.cell? a=some v) (h1:one v=true) (h:Enc w ok d v) (hr:EncC w ok (a.add 1) ds):EncC w ok a (d::ds)
inductive EncS (w:World) (ok:Nat→Prop):Nat→Addr→List Dat→Prop
  | nil {sz:Nat} {a:Addr}:EncS w ok sz a []
  | cons {sz:Nat} {a:Addr} {d:Dat} {ds:List Dat} (hz:d.cells.length=sz) (h:EncC w ok a d.cells) (hr:EncS w ok sz (a.add sz) ds):EncS w ok sz a (d::ds)
end
theorem cell?_congr {w w':World} {a:Addr} (h:w'.heap[a.block]? = w.heap[a.block]?):w'.cell? a=w.cell? a:=by
 unfold World.cell?; rw[h]
structure Stay (w w':World) (ok ok':Nat→Prop):Prop where
  ho:∀ b,ok b→ok' b
  hw:∀ b,ok b→w'.heap[b]? = w.heap[b]?
theorem Stay.trans {w w' w'':World} {ok ok' ok'':Nat→Prop} (s:Stay w w' ok ok') (s':Stay w' w'' ok' ok''):Stay w w'' ok ok'':=⟨fun b h=>s'.ho b (s.ho b h),fun b h=>(s'.hw b (s.ho b h)).trans (s.hw b h)⟩
theorem Stay.refl (w:World) (ok:Nat→Prop):Stay w w ok ok:=⟨fun _ h=>h,fun _ _=>rfl⟩
structure StayC (w w':World) (ok ok':Nat→Prop):Prop where
  ho:∀ b,ok b→ok' b
  hw:∀ (a:Addr) (v:Value),ok a.block→w.cell? a=some v→w'.cell? a=some v
theorem Stay.toC {w w':World} {ok ok':Nat→Prop} (s:Stay w w' ok ok'):StayC w w' ok ok':=⟨s.ho,fun a v hb hc=>(cell?_congr (s.hw _ hb)).trans hc⟩
section mono
variable {w w':World} {ok ok':Nat→Prop}
mutual
theorem Enc.monoC (s:StayC w w' ok ok'):∀ {d:Dat} {v:Value},Enc w ok d v→Enc w' ok' d v
 | _,_,.val h=>.val h
 | _,_,.slnil=>.slnil
 | _,_,.sl hn hc h=>.sl hn hc (EncS.monoC s h)
 | _,_,.slxnil=>.slxnil
 | _,_,.slx hn h=>.slx hn (EncS.monoC s h)
 | _,_,.agg h1 h=>.agg h1 (EncL.monoC s h)
 | _,_,.nod h=>.nod (EncC.monoC s h)
 | _,_,.tup h=>.tup (EncL.monoC s h)
 | _,_,.fn h1 h2=>.fn (EncL.monoC s h1) (EncL.monoC s h2)
 | _,_,.ifc h=>.ifc (Enc.monoC s h)
 | _,_,.dead=>.dead
theorem EncL.monoC (s:StayC w w' ok ok'):∀ {ds:List Dat} {vs:List Value},EncL w ok ds vs→EncL w' ok' ds vs
 | _,_,.nil=>.nil
 | _,_,.cons h hr=>.cons (Enc.monoC s h) (EncL.monoC s hr)
theorem EncC.monoC (s:StayC w w' ok ok'):∀ {a:Addr} {ds:List Dat},EncC w ok a ds→EncC w' ok' a ds
 | _,_,.nil=>.nil
 | _,_,.cons hb hs hc h1 h hr=>.cons (s.ho _ hb) hs (s.hw _ _ hb hc) h1 (Enc.monoC s h) (EncC.monoC s hr)
theorem EncS.monoC (s:StayC w w' ok ok'):∀ {sz:Nat} {a:Addr} {ds:List Dat},EncS w ok sz a ds→EncS w' ok' sz a ds
 | _,_,_,.nil=>.nil
 | _,_,_,.cons hz h hr=>.cons hz (EncC.monoC s h) (EncS.monoC s hr)
end
theorem Enc.mono (s:Stay w w' ok ok') {d:Dat} {v:Value} (h:Enc w ok d v):Enc w' ok' d v:=h.monoC s.toC
theorem EncL.mono (s:Stay w w' ok ok') {ds:List Dat} {vs:List Value} (h:EncL w ok ds vs):EncL w' ok' ds vs:=h.monoC s.toC
theorem EncC.mono (s:Stay w w' ok ok') {a:Addr} {ds:List Dat} (h:EncC w ok a ds):EncC w' ok' a ds:=h.monoC s.toC
theorem EncS.mono (s:Stay w w' ok ok') {sz:Nat} {a:Addr} {ds:List Dat} (h:EncS w ok sz a ds):EncS w' ok' sz a ds:=h.monoC s.toC
end mono
section
variable {w:World} {ok:Nat→Prop}
theorem EncL.length:∀ {ds:List Dat} {vs:List Value},EncL w ok ds vs→ds.length=vs.length
 | _,_,.nil=>rfl
 | _,_,.cons _ hr=>by simp[EncL.length hr]
theorem EncL.get:∀ {ds:List Dat} {vs:List Value} (_:EncL w ok ds vs) (i:Nat) {d:Dat},ds[i]? = some d→∃ v,vs[i]? = some v∧Enc w ok d v
 | _,_,.nil,i,d,hd=>by simp at hd
 | _,_,.cons (v:=v) h hr,0,d,hd=>by
  simp only[List.getElem?_cons_zero,Option.some.injEq] at hd; subst hd; exact⟨v,rfl,h⟩
 | _,_,.cons h hr,i+1,d,hd=>by
  simp only[List.getElem?_cons_succ] at hd ⊢; exact EncL.get hr i hd
theorem EncL.drop:∀ {ds:List Dat} {vs:List Value} (_:EncL w ok ds vs) (i:Nat),EncL w ok (ds.drop i) (vs.drop i)
 | _,_,h,0=>h
 | _,_,.nil,i+1=>by simpa using EncL.nil
 | _,_,.cons _ hr,i+1=>by simpa using EncL.drop hr i
theorem EncL.take:∀ {ds:List Dat} {vs:List Value} (_:EncL w ok ds vs) (i:Nat),EncL w ok (ds.take i) (vs.take i)
 | _,_,_,0=>by simpa using EncL.nil
 | _,_,.nil,i+1=>by simpa using EncL.nil
 | _,_,.cons h hr,i+1=>by simpa using EncL.cons h (EncL.take hr i)
theorem EncL.append:∀ {ds:List Dat} {vs:List Value} (_:EncL w ok ds vs) {es:List Dat} {us:List Value} (_:EncL w ok es us),EncL w ok (ds++es) (vs++us)
 | _,_,.nil,_,_,h=>by simpa using h
 | _,_,.cons h hr,_,_,h'=>by simpa using EncL.cons h (EncL.append hr h')
theorem EncL.set:∀ {ds:List Dat} {vs:List Value} (_:EncL w ok ds vs) (i:Nat) {d:Dat} {v:Value},Enc w ok d v→EncL w ok (ds.set i d) (vs.set i v)
 | _,_,.nil,i,_,_,_=>by simpa using EncL.nil
 | _,_,.cons _ hr,0,_,_,hd=>by simpa using EncL.cons hd hr
 | _,_,.cons h hr,i+1,_,_,hd=>by simpa using EncL.cons h (EncL.set hr i hd)
theorem ry (a:Addr) (m n:Nat):(a.add m).add n=a.add (m+n):=by
 unfold Addr.add;by_cases hm:m=0
 ·subst hm; simp
 ·by_cases hn:n=0
  ·subst hn; simp
  ·simp[hm,hn,Nat.add_assoc]
theorem r7 (a:Addr):a.add 0=a:=rfl
theorem sa (b off n:Nat):(⟨b,off,none⟩:Addr).add n=⟨b,off+n,none⟩:=by
 unfold Addr.add;split
 ·rename_i h; subst h; rfl
 ·rfl
theorem EncC.drop:∀ {ds:List Dat} {a:Addr} (_:EncC w ok a ds) (i:Nat),EncC w ok (a.add i) (ds.drop i)
 | _,_,h,0=>h
 | _,_,.nil,i+1=>by simpa using EncC.nil
 | _,a,.cons _ _ _ _ _ hr,i+1=>by
  have:=EncC.drop hr i;rw[ry] at this;simpa [Nat.add_comm] using this
theorem EncC.take:∀ {ds:List Dat} {a:Addr} (_:EncC w ok a ds) (i:Nat),EncC w ok a (ds.take i)
 | _,_,_,0=>by simpa using EncC.nil
 | _,_,.nil,i+1=>by simpa using EncC.nil
 | _,a,.cons hb hs hc h1 h hr,i+1=>by simpa using EncC.cons hb hs hc h1 h (EncC.take hr i)
theorem EncC.vals:∀ {ds:List Dat} {a:Addr},EncC w ok a ds→∃ vs,EncL w ok ds vs∧(∀ (j:Nat) u,vs[j]? = some u→w.cell? (a.add j)=some u)∧∀ v∈vs,one v=true
 | [],a,.nil=>⟨[],.nil,(fun j u h=>by simp at h),by simp⟩
 | d::ds,a,.cons hb hs hc h1 h hr=>by
  obtain⟨vs,g1,g2,g3⟩:=EncC.vals hr;refine⟨_::vs,.cons h g1,fun j u hj=>?_,fun v hv=>?_⟩
  ·cases j with
   | zero=>simp at hj; subst hj; rw[r7]; exact hc
   | succ j=>
    have:=g2 j u (by simpa using hj);rw[ry] at this;rwa[Nat.add_comm]
  ·rcases List.mem_cons.1 hv with rfl|hv
   ·exact h1
   ·exact g3 v hv
theorem EncS.get {sz:Nat}:∀ {ds:List Dat} {a:Addr} (_:EncS w ok sz a ds) (i:Nat) {d:Dat},ds[i]? = some d→d.cells.length=sz∧EncC w ok (a.add (i*sz)) d.cells
 | _,_,.nil,i,d,hd=>by simp at hd
 | _,_,.cons hz h hr,0,d,hd=>by
  simp only[List.getElem?_cons_zero,Option.some.injEq] at hd; subst hd; simpa using ⟨hz,h⟩
 | _,a,.cons hz h hr,i+1,d,hd=>by
  simp only[List.getElem?_cons_succ] at hd;have:=EncS.get hr i hd;rw[ry] at this;rwa[Nat.succ_mul,Nat.add_comm]
theorem EncS.drop {sz:Nat}:∀ {ds:List Dat} {a:Addr} (_:EncS w ok sz a ds) (i:Nat),EncS w ok sz (a.add (i*sz)) (ds.drop i)
 | _,_,h,0=>by rw[Nat.zero_mul]; exact h
 | _,_,.nil,i+1=>by simpa using EncS.nil
 | _,a,.cons hz h hr,i+1=>by
  have:=EncS.drop hr i;rw[ry] at this;rw[Nat.succ_mul,Nat.add_comm];simpa using this
theorem EncS.take {sz:Nat}:∀ {ds:List Dat} {a:Addr} (_:EncS w ok sz a ds) (i:Nat),EncS w ok sz a (ds.take i)
 | _,_,_,0=>by simpa using EncS.nil
 | _,_,.nil,i+1=>by simpa using EncS.nil
 | _,a,.cons hz h hr,i+1=>by simpa using EncS.cons hz h (EncS.take hr i)
theorem EncS.vals {sz:Nat}:∀ {ds:List Dat} {a:Addr},EncS w ok sz a ds→∃ vs,EncL w ok (ds.flatMap Dat.cells) vs∧vs.length=ds.length*sz∧(∀ (j:Nat) u,vs[j]? = some u→w.cell? (a.add j)=some u)∧(∀ v∈vs,one v=true)∧∀ d∈ds,d.cells.length=sz
 | [],a,.nil=>⟨[],.nil,by simp,(fun j u h=>by simp at h),by simp,by simp⟩
 | d::ds,a,.cons hz h hr=>by
  obtain⟨us,f1,f2,f3⟩:=h.vals;obtain⟨vs,g1,g2,g3,g4,g5⟩:=EncS.vals hr;have hul:us.length=sz:=by rw[← f1.length,hz]
  refine⟨us++vs,f1.append g1,by simp[hul,g2,Nat.add_mul,Nat.add_comm],fun j u hj=>?_,fun v hv=>(List.mem_append.1 hv).elim (f3 v) (g4 v),fun e he=>?_⟩
  ·rcases Nat.lt_or_ge j us.length with hlt|hge
   ·rw[List.getElem?_append_left hlt] at hj; exact f2 j u hj
   ·rw[List.getElem?_append_right hge] at hj;have:=g3 _ u hj;rw[ry] at this;rwa[show sz+(j-us.length)=j by omega] at this
  ·rcases List.mem_cons.1 he with rfl|he
   ·exact hz
   ·exact g5 e he
theorem Enc.val_inv {v u:Value} (h:Enc w ok (.val v) u):u=v∧one v=true:=by
 cases h with|val h=>exact⟨rfl,h⟩
theorem Enc.nod_inv {cs:List Dat} {u:Value} (h:Enc w ok (.nod cs) u):∃ a,u = .pointer (some a)∧EncC w ok a cs:=by
 cases h with|nod h=>exact⟨_,rfl,h⟩
theorem Enc.sl_inv {sz:Nat} {l:List Dat} {u:Value} (h:Enc w ok (.sl sz l) u):(l=[]∧u = .slice none 0 0)∨∃ a c,u = .slice (some a) l.length c∧l.length≤c∧EncS w ok sz a l:=by
 cases h with
 | slnil=>exact .inl ⟨rfl,rfl⟩
 | sl hn hc h=>subst hn; exact .inr ⟨_,_,rfl,hc,h⟩
theorem Enc.slx_inv {sz:Nat} {l:List Dat} {u:Value} (h:Enc w ok (.slx sz l) u):(l=[]∧u = .slice none 0 0)∨∃ a,u = .slice (some a) l.length l.length∧EncS w ok sz a l:=by
 cases h with
 | slxnil=>exact .inl ⟨rfl,rfl⟩
 | slx hn h=>subst hn; exact .inr ⟨_,rfl,h⟩
theorem Enc.slx_sl {sz:Nat} {l:List Dat} {u:Value} (h:Enc w ok (.slx sz l) u):Enc w ok (.sl sz l) u:=by
 rcases h.slx_inv with ⟨rfl,rfl⟩|⟨a,rfl,h1⟩
 ·exact .slnil
 ·exact .sl rfl (Nat.le_refl _) h1
theorem Enc.sl_len {sz:Nat} {l:List Dat} {u:Value} (h:Enc w ok (.sl sz l) u):∃ A c,u = .slice A l.length c:=by
 rcases h.sl_inv with ⟨rfl,rfl⟩|⟨a,c,rfl,_⟩
 ·exact⟨_,_,rfl⟩
 ·exact⟨_,_,rfl⟩
theorem Enc.slx_len {sz:Nat} {l:List Dat} {u:Value} (h:Enc w ok (.slx sz l) u):∃ A c,u = .slice A l.length c:=h.slx_sl.sl_len
theorem Enc.agg_inv {cs:List Dat} {u:Value} (h:Enc w ok (.agg cs) u):∃ vs:List Value,u = .agg vs.toArray∧(∀ v∈vs,one v=true)∧EncL w ok cs vs:=by
 cases h with|agg h1 h=>exact⟨_,rfl,h1,h⟩
theorem Enc.tup_inv {cs:List Dat} {u:Value} (h:Enc w ok (.tup cs) u):∃ vs:List Value,u = .tuple vs.toArray∧EncL w ok cs vs:=by
 cases h with|tup h=>exact⟨_,rfl,h⟩
theorem Enc.bool_inv {b:Bool} {u:Value} (h:Enc w ok (.val (.bool b)) u):u = .bool b:=h.val_inv.1
theorem Enc.fn_inv {f:Fn} {fs cs:List Dat} {u:Value} (h:Enc w ok (.fn f fs cs) u):∃ vs us:List Value,u = .func f vs.toArray us.toArray∧EncL w ok fs vs∧EncL w ok cs us:=by
 cases h with|fn h1 h2=>exact⟨_,_,rfl,h1,h2⟩
theorem Enc.ifc_inv {t:TypeId} {d:Dat} {u:Value} (h:Enc w ok (.ifc t d) u):∃ v,u = .iface t v∧Enc w ok d v:=by
 cases h with|ifc h=>exact⟨_,rfl,h⟩
def live:Dat→Bool
| .dead | .tup _=>false
| _=>true
theorem Enc.cells {d:Dat} {v:Value} (h:Enc w ok d v) (hl:live d=true):∃ vs:List Value,v.cells=vs.toArray∧EncL w ok d.cells vs∧∀ u∈vs,one u=true:=by
 cases h with
 | agg h1 h=>exact⟨_,rfl,h,h1⟩
 | tup h=>simp[live] at hl
 | dead=>simp[live] at hl
 | val h=>exact⟨[v],by cases v <;> first|rfl|simp[one] at h,.cons (.val h) .nil,by simp[h]⟩
 | slnil=>exact⟨[_],rfl,.cons .slnil .nil,by simp[one]⟩
 | sl a b c=>exact⟨[_],rfl,.cons (.sl a b c) .nil,by simp[one]⟩
 | slxnil=>exact⟨[_],rfl,.cons .slxnil .nil,by simp[one]⟩
 | slx a b=>exact⟨[_],rfl,.cons (.slx a b) .nil,by simp[one]⟩
 | nod a=>exact⟨[_],rfl,.cons (.nod a) .nil,by simp[one]⟩
 | fn a b=>exact⟨[_],rfl,.cons (.fn a b) .nil,by simp[one]⟩
 | ifc a=>exact⟨[_],rfl,.cons (.ifc a) .nil,by simp[one]⟩
theorem cell_blk {b:Nat} {cells:Array Value} {e:TypeId} {fr:Nat × Nat} (hb:w.heap[b]? = some (.cells cells e fr)) (j:Nat):w.cell? ⟨b,j,none⟩=cells[j]?:=by
 unfold World.cell?; simp[hb]
theorem EncL.toC {w':World} {ok':Nat→Prop} {b:Nat} {cells:Array Value} {e:TypeId} {fr:Nat × Nat} (hb:w'.heap[b]? = some (.cells cells e fr)) (hok:ok' b) :
 ∀ {ds:List Dat} {vs:List Value} (off:Nat),EncL w' ok' ds vs→(∀ u∈vs,one u=true)→(∀ j v,vs[j]? = some v→cells[off+j]? = some v)→EncC w' ok' ⟨b,off,none⟩ ds
 | _,_,off,.nil,_,_=>.nil
 | _,_,off,.cons (v:=v) (vs:=vs) h hr,h1,hc=>by
  have h0:=hc 0 v rfl;refine .cons hok rfl ?_ (h1 _ List.mem_cons_self) h ?_
  ·rw[cell_blk hb]; simpa using h0
  ·rw[sa];refine EncL.toC hb hok (off+1) hr (fun u hu=>h1 u (List.mem_cons_of_mem _ hu)) (fun j u hu=>?_);have:=hc (j+1) u (by simpa using hu);rwa[show off+1+j=off+(j+1) by omega]
theorem EncC.flat {sz:Nat}:∀ {ds:List Dat} {a:Addr},EncC w ok a (ds.flatMap Dat.cells)→(∀ d∈ds,d.cells.length=sz)→EncS w ok sz a ds
 | [],_,_,_=>.nil
 | d::ds,a,h,hz=>by
  have hd:=hz d List.mem_cons_self;simp only[List.flatMap_cons] at h;have h1:=h.take d.cells.length;have h2:=h.drop d.cells.length;rw[List.take_left] at h1;rw[List.drop_left] at h2;rw[hd] at h2;exact .cons hd h1 (EncC.flat h2 (fun e he=>hz e (List.mem_cons_of_mem _ he)))
theorem uU {sz:Nat}:∀ {l:List Dat},(∀ d∈l,d.cells.length=sz)→(l.flatMap Dat.cells).length=l.length*sz
 | [],_=>by simp
 | d::l,h=>by
  simp only[List.flatMap_cons,List.length_append,List.length_cons,Nat.add_mul];rw[h d List.mem_cons_self,uU (fun e he=>h e (List.mem_cons_of_mem _ he))]; omega
theorem oneCell_of {v:Value} (h:one v=true):v.oneCell'=true:=by cases v <;> first|rfl|cases h
theorem Enc.one_cells {d:Dat} {v:Value} (h:Enc w ok d v) (h1:one v=true):d.cells=[d]:=by
 cases h <;> first|rfl|simp[one] at h1
theorem EncC.toS {a:Addr}:∀ {ds:List Dat},EncC w ok a ds→EncS w ok 1 a ds
 | [],_=>.nil
 | d::ds,.cons hb hs hc h1 h hr=>.cons (by rw[h.one_cells h1]; rfl) (by rw[h.one_cells h1]; exact .cons hb hs hc h1 h .nil) hr.toS
end
end Go.Sm
