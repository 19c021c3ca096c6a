import Derived.Test.YtpmhiiemklhbhaaGreatS0
import Derived.TacticsIn
import Derived.RangeFuncLeaves
import Derived.RangeFuncRecord
set_option linter.unusedVariables false
namespace Go.Sm
structure TI where
  desc:TypeDesc
  size:Nat
  bytes:Nat
  zero:Value
def lkT:List (TypeId × TI)→TypeId→Option TI
| [],_=>none
| (i,x)::r,t=>bif Nat.beq i t then some x else lkT r t
structure TOk (P:Program) (t:TypeId) (i:TI):Prop where
  desc:P.underlying t=some i.desc
  info:∃ x,P.info? t=some x∧x.size=i.size∧x.bytes=i.bytes∧x.zero=some i.zero
structure Prg where
  P:Program
  tab:List (TypeId × TI)
  tok:∀ t i,lkT tab t=some i→TOk P t i
  rd:Option Nat:=none
def Prg.F (X:Prg):Fence:={ Fence.wide with round:=X.rd }
def Prg.inR (X:Prg) (l:Nat):Prg:={ X with rd:=some l }
theorem Prg.F_wide {X:Prg} (h:X.rd=none):X.F=Fence.wide:=by unfold Prg.F; rw[h]; rfl
theorem Prg.fn (X:Prg) (f:FuncId):X.F.fn f:=trivial
theorem Prg.room (X:Prg) (n:Nat):X.F.room n:=fun d h=>by cases h
inductive AllT (P:Program):List (TypeId × TI)→Prop
  | nil:AllT P []
  | cons {t:TypeId} {i:TI} {r:List (TypeId × TI)} (h:TOk P t i) (hr:AllT P r):AllT P ((t,i)::r)
theorem AllT.lkT {P:Program} {l:List (TypeId × TI)} (h:AllT P l) (t:TypeId) (i:TI) (hl:Go.Sm.lkT l t=some i):TOk P t i:=by
 induction h with
 | nil=>simp[Go.Sm.lkT] at hl
 | cons h hr ih=>
  rename_i t' i' r;simp only[Go.Sm.lkT] at hl;cases hb:Nat.beq t' t with
  | true=>
   rw[hb] at hl;obtain rfl:=Option.some.inj hl;have:=Nat.eq_of_beq_eq_true hb;subst this; exact h
  | false=>rw[hb] at hl; exact ih hl
def lk:List (Nat × Dat)→Nat→Option Dat
| [],_=>none
| (i,d)::r,t=>bif Nat.beq i t then some d else lk r t
theorem lk_cons (i:Nat) (d:Dat) (r:List (Nat × Dat)) (t:Nat):lk ((i,d)::r) t=if i=t then some d else lk r t:=by
 simp only[lk];by_cases h:i=t
 ·subst h; simp[Nat.beq_refl]
 ·have:Nat.beq i t=false:=by
   cases hb:Nat.beq i t
   ·rfl
   ·exact absurd (Nat.eq_of_beq_eq_true hb) h
  simp[h,this]
inductive Own where
  | var (b:Nat) (cs:List Dat) (t:TypeId)
  | row (v:Value) (l:List Dat) (sz:Nat) (e:TypeId)
  | lp (l:Nat) (st:LoopState) (pend:Option Code) (ps:List Tmp) (asg body:Code) (sl:List (Nat × Dat)) (n:Nat)
  | gone
instance:Inhabited Own:=⟨.gone⟩
def blk:Value→Nat
| .pointer (some a)=>a.block
| .slice (some a) _ _=>a.block
| _=>0
def vblk:Value→Option Nat
| .slice (some a) _ _=>some a.block
| _=>none
def Own.block:Own→Option Nat
| .var b _ _=>some b
| .row v _ _ _=>vblk v
| .lp l _ _ _ _ _ _ _=>some l
| .gone=>none
inductive OwnOk (w:World) (ok:Nat→Prop):Own→Prop
  | var {b:Nat} {cs:List Dat} {vs:List Value} {t:TypeId} (hb:w.heap[b]? = some (.cells vs.toArray t (0,0))) (h:EncL w ok cs vs) (h1:∀ v∈vs,one v=true):OwnOk w ok (.var b cs t)
  | nil {sz:Nat} {e:TypeId}:OwnOk w ok (.row (.slice none 0 0) [] sz e)
  | row {b c n sz:Nat} {e:TypeId} {l:List Dat} {vs us:List Value} (hn:l.length=n) (hc:n≤c) (hm:c≤maxLen) (hb:w.heap[b]? = some (.cells (vs++us).toArray e (0,0))) (hz:c*sz=(vs++us).length) (h:EncL w ok (l.flatMap Dat.cells) vs) (h1:∀ v∈vs,one v=true) (hs:∀ d∈l,d.cells.length=sz):OwnOk w ok (.row (.slice (some ⟨b,0,none⟩) n c) l sz e)
  | lp {l:Nat} {st:LoopState} {pend:Option Code} {fn:FuncId} {ts:List Value} {ps:List Tmp} {asg body:Code} {D:Nat} {sl:List (Nat × Dat)} {n:Nat} (hb:w.heap[l]? = some (.loop { state:=st,pending:=pend,fn:=fn,tmps:=ts.toArray,params:=ps.toArray,assign:=asg,body:=body,defers:=D })) (hn:n≤ts.length) (hs:∀ t d,lk sl t=some d→t<n∧Enc w ok d (ts.toArray.getD t undef)):OwnOk w ok (.lp l st pend ps asg body sl n)
  | gone:OwnOk w ok .gone
structure St where
  sl:List (Nat × Dat)
  ow:List Own
  n:Nat
structure Gh where
  w0:World
  ok0:Nat→Prop
  own0:Nat→Prop
def globs:List Nat:=[0]
def GlOk (w:World) (ok:Nat→Prop):Prop:=∀ g∈globs,ok g∧∃ m,w.cell? ⟨g,0,none⟩=some (.int .i64 m)
theorem GlOk.mono {w w':World} {ok ok':Nat→Prop} (s:Stay w w' ok ok') (h:GlOk w ok):GlOk w' ok':=fun g hg=>⟨s.ho g (h g hg).1,let ⟨m,e⟩:=(h g hg).2; ⟨m,(cell?_congr (a:=⟨g,0,none⟩) (s.hw g (h g hg).1)).trans e⟩⟩
structure RepB (G:Gh) (ow:List Own) (w:World) (ok:Nat→Prop):Prop where
  own:∀ (k:Nat) (o:Own),ow[k]? = some o→OwnOk w ok o
  inj:∀ (k k':Nat) (o o':Own) (b:Nat),ow[k]? = some o→ow[k']? = some o'→o.block=some b→o'.block=some b→k=k'
  okf:∀ b,ok b→b<w.heap.size∧∀ (k:Nat) (o:Own),ow[k]? = some o→o.block≠some b
  blt:∀ (k:Nat) (o:Own) (b:Nat),ow[k]? = some o→o.block=some b→b<w.heap.size∧(G.w0.heap.size≤b∨G.own0 b)
  prot:∀ b,b<G.w0.heap.size→¬ G.own0 b→w.heap[b]? = G.w0.heap[b]?
  gsz:G.w0.heap.size≤w.heap.size
  os:w.os=G.w0.os
  out:w.output=G.w0.output
  tape:w.tape=G.w0.tape
  ok0:∀ b,G.ok0 b→ok b
  org:∀ b,ok b→G.ok0 b∨G.w0.heap.size≤b∨G.own0 b
  gl:GlOk w ok
def mark (D:Nat):Deferred:={ target:=.collected D,args:=#[] }
def Marks (G:Gh) (a:Act) (w:World) (ok:Nat→Prop):Prop:=∃ Ds:List Nat,a.defers=Ds.map mark∧Ds.Nodup∧∀ D∈Ds,ok D∧G.w0.heap.size≤D∧w.heap[D]? = some (.deferred (some []))
theorem Marks.mono {G:Gh} {a:Act} {w w':World} {ok ok':Nat→Prop} (s:Stay w w' ok ok') (h:Marks G a w ok):Marks G a w' ok':=by
 obtain⟨Ds,h1,h2,h3⟩:=h;exact⟨Ds,h1,h2,fun D hD=>⟨s.ho D (h3 D hD).1,(h3 D hD).2.1,(s.hw D (h3 D hD).1).trans (h3 D hD).2.2⟩⟩
theorem Marks.none {G:Gh} {a:Act} {w:World} {ok:Nat→Prop} (h:a.defers=[]):Marks G a w ok:=⟨[],h,List.nodup_nil,fun D hD=>by simp at hD⟩
theorem Marks.put {G:Gh} {a:Act} {w:World} {ok:Nat→Prop} (dst:Option Tmp) (v:Value) (h:Marks G a w ok):Marks G (a.put dst v) w ok:=by
 cases dst <;> exact h
structure Rep (G:Gh) (S:St) (a:Act) (w:World) (ok:Nat→Prop):Prop extends RepB G S.ow w ok where
  hd:Marks G a w ok
  hs:S.n≤a.tmps.size
  sl:∀ (t:Nat) (d:Dat),lk S.sl t=some d→t<S.n∧Enc w ok d (a.tmps.getD t undef)
def Lift (G:Gh) (Q:Exit→St→Prop):Exit→Act→World→Prop:=fun e a w=>∃ S ok,Rep G S a w ok∧Q e S
def T (X:Prg) (c:Code) (S:St) (Q:Exit→St→Prop):Prop:=∀ G a w ok,Rep G S a w ok→c.wpIn X.F 0 X.P (Lift G Q) a w
def TL (X:Prg) (ops:Array Oper) (l:List Oper) (S:St) (Q:Exit→St→Prop):Prop:=∀ G a w ok,Rep G S a w ok→wpListIn X.F 0 X.P ops (Lift G Q) l a w
def Gh.of (w:World) (ow:List Own) (ok:Nat→Prop):Gh:={ w0:=w,ok0:=ok,own0:=fun b=>∃ o∈ow,o.block=some b }
def CallT (P:Program) (f:FuncId) (args:List Dat) (ow:List Own) (Q:Dat→List Own→Prop):Prop:=
 ∀ w vs ok,RepB (Gh.of w ow ok) ow w ok→EncL w ok args vs →
 Calls P f vs.toArray w fun e w'=>∃ v r ow' ok',e = .returned v∧RepB (Gh.of w ow ok) ow' w' ok'∧Enc w' ok' r v∧Q r ow'
theorem CallT.mono {P:Program} {f:FuncId} {args:List Dat} {ow:List Own} {Q Q':Dat→List Own→Prop} (h:CallT P f args ow Q) (hq:∀ r b,Q r b→Q' r b):CallT P f args ow Q':=
 fun w vs ok hr he=>(h w vs ok hr he).mono fun _ _ ⟨v,r,ow',ok',h1,h2,h3,h4⟩=>⟨v,r,ow',ok',h1,h2,h3,hq _ _ h4⟩
theorem wpIn_of_run {X:Prg} {o:Oper} {a:Act} {w w':World} {K:Act→World→Prop} {Q:Exit→Act→World→Prop} {nx:Next} (hrun:(execOp a.eval o).run X.P w = .ok nx w') (hnd:∀ d,nx ≠ .defer d) (h:o.upon X.P a K Q (.ok nx w')):o.wpIn X.F 0 X.P a w K Q:=by
 refine⟨fun _ _=>trivial,?_⟩;have hop:∀ c,o.op ≠ .defer c:=fun c hc=>by
  obtain⟨dst,op,ty,pos,after,g⟩:=o;dsimp only at hc; subst hc;simp only[execOp,Sem.run_bind] at hrun;cases hq:(resolve a.eval c ty).run X.P w with
  | ok d w1=>rw[hq] at hrun; simp[Result.andThen] at hrun; exact hnd d hrun.1.symm
  | halt x w1=>rw[hq] at hrun; simp[Result.andThen] at hrun
 rw[Oper.semAt_eq _ _ _ hop,hrun];cases nx <;> first|exact h|exact h.elim|exact (hnd _ rfl).elim|exact⟨fun h=>(by cases h),callsIn_wide.2 h⟩|skip
 refine⟨fun h=>(by cases h),fun c cs _=>?_⟩;obtain⟨v,w',r,s⟩:=h c cs;exact⟨v,w',r,stepsIn_wide.2 s⟩
section rules
variable {X:Prg} {S:St} {Q:Exit→St→Prop}
theorem T.mono {c:Code} {Q':Exit→St→Prop} (h:T X c S Q) (hq:∀ e S,Q e S→Q' e S):T X c S Q':=
 fun G a w ok hr=>wpIn_mono (h G a w ok hr) fun _ _ _ ⟨S',ok',h1,h2⟩=>⟨S',ok',h1,hq _ _ h2⟩
abbrev Then (X:Prg) (y:Code) (Q:Exit→St→Prop):Exit→St→Prop
| .normal,S=>T X y S Q
| e,S=>Q e S
theorem T.seq {x y:Code} (h:T X x S (Then X y Q)):T X (.seq x y) S Q:=fun G a w ok hr=>
 wpIn_seq (wpIn_mono (h G a w ok hr) fun e a' w' ⟨S',ok',h1,h2⟩=>by
  cases e with
  | normal=>exact h2 G a' w' ok' h1
  | _=>exact⟨S',ok',h1,h2⟩)
theorem T.skip (h:Q .normal S):T X .skip S Q:=fun _ _ _ ok hr=>wpIn_skip ⟨S,ok,hr,h⟩
theorem T.label {l:Nat} (h:Q .normal S):T X (.label l) S Q:=fun _ _ _ ok hr=>wpIn_label ⟨S,ok,hr,h⟩
theorem T.exit {id:Nat} (h:Q (.exit id) S):T X (.exit id) S Q:=fun _ _ _ ok hr=>wpIn_exit ⟨S,ok,hr,h⟩
theorem T.goto {l:Nat} (h:Q (.goto l) S):T X (.goto l) S Q:=fun _ _ _ ok hr=>wpIn_goto ⟨S,ok,hr,h⟩
theorem T.ret (h:Q .ret S):T X .ret S Q:=fun _ _ _ ok hr=>wpIn_ret ⟨S,ok,hr,h⟩
abbrev InBlock (id:Nat) (Q:Exit→St→Prop):Exit→St→Prop
| .exit id',S=>if id'=id then Q .normal S else Q (.exit id') S
| e,S=>Q e S
theorem T.block {id:Nat} {c:Code} (h:T X c S (InBlock id Q)):T X (.block id c) S Q:=fun G a w ok hr=>
 wpIn_block (wpIn_mono (h G a w ok hr) fun e a' w' ⟨S',ok',h1,h2⟩=>by
  cases e with
  | exit id'=>
   simp only[InBlock] at h2;simp only[Exit.inBlock];split
   ·rename_i hi; rw[if_pos hi] at h2; exact⟨S',ok',h1,h2⟩
   ·rename_i hi; rw[if_neg hi] at h2; exact⟨S',ok',h1,h2⟩
  | _=>exact⟨S',ok',h1,h2⟩)
theorem T.cond {t:Nat} {x y:Code} {b:Bool} (hc:lk S.sl t=some (.val (.bool b))) (ht:b=true→T X x S Q) (hf:b=false→T X y S Q):T X (.cond (.tmp t) x y) S Q:=fun G a w ok hr=>by
 have hv:a.eval (.tmp t) = .bool b:=(hr.sl t _ hc).2.bool_inv;exact wpIn_cond_split hv (fun h=>ht h G a w ok hr) (fun h=>hf h G a w ok hr)
theorem T.condT {t:Nat} {x y:Code} {b:Bool} (hc:lk S.sl t=some (.val (.bool b))) (hb:b=true) (h:T X x S Q):T X (.cond (.tmp t) x y) S Q:=T.cond hc (fun _=>h) (fun h=>by rw[hb] at h; cases h)
theorem T.condF {t:Nat} {x y:Code} {b:Bool} (hc:lk S.sl t=some (.val (.bool b))) (hb:b=false) (h:T X y S Q):T X (.cond (.tmp t) x y) S Q:=T.cond hc (fun h=>by rw[hb] at h; cases h) (fun _=>h)
abbrev LoopN (I:Nat→St→Prop) (n:Nat) (Q:Exit→St→Prop):Exit→St→Prop
| .normal,S'=>∃ m,m<n∧I m S'
| e,S'=>Q e S'
theorem T.loop {c:Code} (I:Nat→St→Prop) (n:Nat) (h0:I n S)
 (round:∀ n S,I n S→T X c S (LoopN I n Q)):T X (.loop c) S Q:=fun G a w ok hr=>by
 have key:∀ n a w,(∃ S ok,Rep G S a w ok∧I n S)→∀ (b:Frame) (k:List Item) (cs:List Frame),b.roundOf=X.F.round→∃ e a' w',Lift G Q e a' w'∧ArrivesIn (Machine.fenced X.P X.F) X.P (lone (b.atR a (.code c :: .inLoop c::k)) cs w) b k cs e a' w':=by
  intro n
  induction n using Nat.strongRecOn with
  | _ n ih=>
   intro a w ⟨S,ok,hr,hI⟩ b k cs hro;obtain⟨e,a₁,w₁,hq,harr⟩:=round n S hI G a w ok hr b (.inLoop c::k) cs hro (X.fn _) (X.room _);obtain⟨S₁,ok₁,hr₁,hq⟩:=hq;cases e with
   | normal=>
    obtain⟨m,hlt,hI₁⟩:=hq;obtain⟨e₂,a₂,w₂,hq₂,harr₂⟩:=ih m hlt a₁ w₁ ⟨S₁,ok₁,hr₁,hI₁⟩ b k cs hro;exact⟨e₂,a₂,w₂,hq₂,.of_steps (StepsIn.trans harr (.one (fenced_calm (n:=0) (X.fn _) (X.room _) rfl) stepR_inLoop)) harr₂⟩
   | exit id=>exact⟨_,a₁,w₁,⟨S₁,ok₁,hr₁,hq⟩,.pass (x:=.inLoop c) rfl (fun _ _=>.inl (by simp)) harr⟩
   | goto l=>exact⟨_,a₁,w₁,⟨S₁,ok₁,hr₁,hq⟩,.pass (x:=.inLoop c) rfl (fun _ _=>.inl (by simp)) harr⟩
   | ret=>exact⟨_,a₁,w₁,⟨S₁,ok₁,hr₁,hq⟩,.pass (x:=.inLoop c) rfl (fun _ _=>.inl (by simp)) harr⟩
   | panic ch=>exact⟨_,a₁,w₁,⟨S₁,ok₁,hr₁,hq⟩,.pass (x:=.inLoop c) rfl (fun _ _=>.inl (by simp)) harr⟩
   | outgrown=>exact⟨_,a₁,w₁,⟨S₁,ok₁,hr₁,hq⟩,.pass (x:=.inLoop c) rfl (fun _ _=>.inl (by simp)) harr⟩
 intro b k cs hro hb hrm;obtain⟨e,a',w',hq,harr⟩:=key n a w ⟨S,ok,hr,h0⟩ b k cs hro;exact⟨e,a',w',hq,.of_steps (.one (fenced_calm (n:=0) (X.fn _) (X.room _) rfl) stepR_loop) harr⟩
theorem T.region {id:Nat} {l:List Oper} (h:TL X l.toArray l S Q):T X (.region id l.toArray false) S Q:=fun G a w ok hr=>wpIn_region_lit (h G a w ok hr)
theorem TL.nil {ops:Array Oper} (h:Q .normal S):TL X ops [] S Q:=fun _ _ _ ok hr=>wpListIn_nil ⟨S,ok,hr,h⟩
theorem TL.done {ops:Array Oper} {y:Code} (h:T X y S Q):TL X ops [] S (Then X y Q):=TL.nil h
theorem T.cut {x y:Code} (M:St→Prop) (h1:T X x S fun e S'=>e = .normal∧M S') (h2:∀ S',M S'→T X y S' Q):T X (.seq x y) S Q:=
 T.seq (h1.mono fun e S' ⟨he,hm⟩=>by subst he; exact h2 S' hm)
theorem getD_set_self {ts:Array Value} {t:Nat} {v u:Value} (h:t<ts.size):(ts.setIfInBounds t v).getD t u=v:=by
 simp[Array.getD_eq_getD_getElem?,h]
theorem getD_set_ne {ts:Array Value} {t s:Nat} {v u:Value} (h:t≠s):(ts.setIfInBounds t v).getD s u=ts.getD s u:=by
 simp[Array.getD_eq_getD_getElem?,h]
theorem Rep.put {G:Gh} {a:Act} {w:World} {ok:Nat→Prop} {t:Nat} {d:Dat} {v:Value} (hr:Rep G S a w ok) (ht:Nat.blt t S.n=true) (he:Enc w ok d v) :
 Rep G { S with sl:=(t,d)::S.sl } (a.put (some t) v) w ok:=by
 have ht':t<S.n:=by simpa [Nat.blt_eq] using ht
 refine { hr.toRepB with hd:=hr.hd.put _ _,hs:=?_,sl:=?_ }
 ·simpa [Act.put] using hr.hs
 ·intro s d' hl;rw[lk_cons] at hl;simp only[Act.put];by_cases h:t=s
  ·subst h;rw[if_pos rfl] at hl;obtain rfl:=Option.some.inj hl;refine⟨ht',?_⟩;rw[getD_set_self (Nat.lt_of_lt_of_le ht' hr.hs)]; exact he
  ·rw[if_neg h] at hl;rw[getD_set_ne h];exact hr.sl s d' hl
theorem Rep.step {G:Gh} {sl:List (Nat × Dat)} {ow ow':List Own} {n:Nat} {a:Act} {w w':World} {ok ok':Nat→Prop} (hr:Rep G ⟨sl,ow,n⟩ a w ok) (h:RepB G ow' w' ok') (s:Stay w w' ok ok'):Rep G ⟨sl,ow',n⟩ a w' ok':=
 { h with hd:=hr.hd.mono s,hs:=hr.hs,sl:=fun t d ht=>⟨(hr.sl t d ht).1,(hr.sl t d ht).2.mono s⟩ }
theorem Rep.forget {G:Gh} {sl sl':List (Nat × Dat)} {ow:List Own} {n:Nat} {a:Act} {w:World} {ok:Nat→Prop} (hr:Rep G ⟨sl,ow,n⟩ a w ok) (h:∀ t d,lk sl' t=some d→lk sl t=some d):Rep G ⟨sl',ow,n⟩ a w ok:=
 { hr.toRepB with hd:=hr.hd,hs:=hr.hs,sl:=fun t d ht=>hr.sl t d (h t d ht) }
def simple:Value→Bool
| .slice none 0 0=>true
| .agg _ | .tuple _ | .pointer (some _) | .slice _ _ _ | .func .. | .iface .. | .map (some _) | .chan (some _)=>false
| _=>true
theorem one_of_simple {v:Value} (h:simple v=true):one v=true:=by cases v <;> first|rfl|exact h
def ev (S:List (Nat × Dat)):Operand→Option Dat
| .tmp t=>lk S t
| .const v=>bif simple v then some (.val v) else none
| .func f=>some (.fn (.func f) [] [])
| .global _=>none
theorem ev_enc {G:Gh} {a:Act} {w:World} {ok:Nat→Prop} (hr:Rep G S a w ok) {x:Operand} {d:Dat} (h:ev S.sl x=some d):Enc w ok d (a.eval x):=by
 unfold ev at h;split at h
 ·exact (hr.sl _ _ h).2
 ·rename_i v;cases hv:simple v with
  | true=>rw[hv] at h; obtain rfl:=Option.some.inj h; exact .val (one_of_simple hv)
  | false=>rw[hv] at h; cases h
 ·obtain rfl:=Option.some.inj h;exact .fn (vs:=[]) (us:=[]) .nil .nil
 ·cases h
abbrev Kn (S:List (Nat × Dat)) (a:Act) (w:World) (ok:Nat→Prop):Prop:=∀ x d,ev S x=some d→Enc w ok d (a.eval x)
theorem Rep.kn {G:Gh} {sl:List (Nat × Dat)} {ow:List Own} {n:Nat} {a:Act} {w:World} {ok:Nat→Prop} (hr:Rep G ⟨sl,ow,n⟩ a w ok):Kn sl a w ok:=fun _ _ h=>ev_enc hr h
def OpR (X:Prg) (op:Op) (sl:List (Nat × Dat)) (ow:List Own) (d:Value→Dat) (ow':Value→List Own):Prop:=
 ∀ (G:Gh) (a:Act) (w:World) (ok:Nat→Prop),RepB G ow w ok→Kn sl a w ok→∀ o:Oper,o.op=op→∀ (K:Act→World→Prop) (Qm:Exit→Act→World→Prop),
(∀ x v w' ok',RepB G (ow' x) w' ok'→Enc w' ok' (d x) v→Stay w w' ok ok'→K (a.put o.dst v) w')→o.wpIn X.F 0 X.P a w K Qm
theorem TL.op {ops:Array Oper} {rest:List Oper} {op:Op} {ty:TypeId} {pos:String} {after:Array Edge} {t:Nat} {sl:List (Nat × Dat)} {ow:List Own} {n:Nat} {d:Value→Dat} {ow':Value→List Own}
 (h:OpR X op sl ow d ow') (ht:Nat.blt t n=true) (hk:∀ x,TL X ops rest ⟨(t,d x)::sl,ow' x,n⟩ Q) :
 TL X ops ({ dst:=some t,op:=op,type:=ty,pos:=pos,after:=after,guard:=none }::rest) ⟨sl,ow,n⟩ Q:=fun G a w ok hr=>
 wpListIn_plain rfl fun K hK=>h G a w ok hr.toRepB hr.kn _ rfl K _ fun x v w' ok' h1 h2 h3=>hK _ _ (hk x G _ w' ok' ((hr.step h1 h3).put ht h2))
theorem TL.op1 {ops:Array Oper} {rest:List Oper} {op:Op} {ty:TypeId} {pos:String} {after:Array Edge} {t:Nat} {sl:List (Nat × Dat)} {ow:List Own} {n:Nat} {d:Dat} {ow':List Own}
 (h:OpR X op sl ow (fun _=>d) (fun _=>ow')) (ht:Nat.blt t n=true) (hk:TL X ops rest ⟨(t,d)::sl,ow',n⟩ Q) :
 TL X ops ({ dst:=some t,op:=op,type:=ty,pos:=pos,after:=after,guard:=none }::rest) ⟨sl,ow,n⟩ Q:=TL.op h ht fun _=>hk
theorem TL.op0 {ops:Array Oper} {rest:List Oper} {op:Op} {ty:TypeId} {pos:String} {after:Array Edge} {sl:List (Nat × Dat)} {ow:List Own} {n:Nat} {d:Value→Dat} {ow':List Own}
 (h:OpR X op sl ow d (fun _=>ow')) (hk:TL X ops rest ⟨sl,ow',n⟩ Q) :
 TL X ops ({ dst:=none,op:=op,type:=ty,pos:=pos,after:=after,guard:=none }::rest) ⟨sl,ow,n⟩ Q:=fun G a w ok hr=>
 wpListIn_plain rfl fun K hK=>h G a w ok hr.toRepB hr.kn _ rfl K _ fun _ _ w' ok' h1 _ h3=>hK _ _ (hk G _ w' ok' (hr.step h1 h3))
def Gst (S S':St):Prop:=∀ G a w ok,Rep G S a w ok→∃ ok',Rep G S' a w ok'
theorem T.ghost {c:Code} {S S':St} (g:Gst S S') (h:T X c S' Q):T X c S Q:=fun G a w ok hr=>let ⟨ok',hr'⟩:=g G a w ok hr; h G a w ok' hr'
theorem TL.ghost {ops:Array Oper} {l:List Oper} {S S':St} (g:Gst S S') (h:TL X ops l S' Q):TL X ops l S Q:=fun G a w ok hr=>let ⟨ok',hr'⟩:=g G a w ok hr; h G a w ok' hr'
theorem Gst.trans {S S' S'':St} (g:Gst S S') (g':Gst S' S''):Gst S S'':=fun G a w ok hr=>let ⟨ok',hr'⟩:=g G a w ok hr; g' G a w ok' hr'
def only:List Nat→List (Nat × Dat)→List (Nat × Dat)→Option (List (Nat × Dat))
 | [],_,acc=>some acc
 | k::ks,sl,acc=>match lk sl k with|some d=>only ks sl ((k,d)::acc)|none=>none
theorem only_lk:∀ (ks:List Nat) (sl acc sl':List (Nat × Dat)),only ks sl acc=some sl'→(∀ t d,lk acc t=some d→lk sl t=some d)→∀ t d,lk sl' t=some d→lk sl t=some d
 | [],sl,acc,sl',h,ha=>by
  simp only[only,Option.some.injEq] at h; subst h; exact ha
 | k::ks,sl,acc,sl',h,ha=>by
  simp only[only] at h;split at h
  ·rename_i d hd;refine only_lk ks sl _ sl' h (fun t e he=>?_);rw[lk_cons] at he;split at he
   ·rename_i e'; subst e'; rw[hd]; exact he
   ·exact ha t e he
  ·cases h
theorem T.only {c:Code} {sl sl':List (Nat × Dat)} {ow:List Own} {n:Nat} (ks:List Nat) (h:Go.Sm.only ks sl []=some sl') (hk:T X c ⟨sl',ow,n⟩ Q):T X c ⟨sl,ow,n⟩ Q:=
 fun G a w ok hr=>hk G a w ok (hr.forget (only_lk ks sl [] sl' h (fun _ _ h=>by simp[lk] at h)))
theorem TL.only {ops:Array Oper} {l:List Oper} {sl sl':List (Nat × Dat)} {ow:List Own} {n:Nat} (ks:List Nat) (h:Go.Sm.only ks sl []=some sl') (hk:TL X ops l ⟨sl',ow,n⟩ Q):TL X ops l ⟨sl,ow,n⟩ Q:=
 fun G a w ok hr=>hk G a w ok (hr.forget (only_lk ks sl [] sl' h (fun _ _ h=>by simp[lk] at h)))
end rules
end Go.Sm
