import Derived.Test.YtpmhiiemklhbhaaGreatSI
import Derived.RangeFuncNested
set_option linter.unusedVariables false
namespace Go.Sm
open Go.RowKit
section
variable {X:Prg} {op:Op} {sl:List (Nat × Dat)} {ow:List Own} {d:Dat} {n:Nat} {Q:Exit→St→Prop} {w:World} {ok:Nat→Prop}
theorem RepB.reidx {G:Gh} (hr:RepB G ow w ok) {ow':List Own} (f:Nat→Nat) (hf:∀ k o,ow'[k]? = some o→ow[f k]? = some o) (hi:∀ i j,f i=f j→i=j):RepB G ow' w ok where
 own:=fun k o hk=>hr.own _ o (hf k o hk)
 inj:=fun i j p q b h1 h2 b1 b2=>hi i j (hr.inj _ _ p q b (hf i p h1) (hf j q h2) b1 b2)
 okf:=fun b h=>⟨(hr.okf b h).1,fun k o hk=>(hr.okf b h).2 _ o (hf k o hk)⟩
 blt:=fun k o b hk hb=>hr.blt _ o b (hf k o hk) hb
 prot:=hr.prot
 gsz:=hr.gsz
 os:=hr.os
 out:=hr.out
 tape:=hr.tape
 ok0:=hr.ok0
 org:=hr.org
 gl:=hr.gl
def frontIx (n:Nat):Nat→Nat
| 0=>n
| k+1=>k
theorem front_at {o:Own}:∀ (k:Nat) (p:Own),(o::ow)[k]? = some p→(ow++[o])[frontIx ow.length k]? = some p
 | 0,p,hk=>by simp at hk; subst hk; simp[frontIx]
 | k+1,p,hk=>by
  simp at hk;simp only[frontIx];rw[List.getElem?_append_left (List.getElem?_eq_some_iff.1 hk).1]; exact hk
theorem RepB.front {G:Gh} {o:Own} (hr:RepB G (ow++[o]) w ok):RepB G (o::ow) w ok where
 own:=fun k p hk=>hr.own _ p (front_at k p hk)
 inj:=fun i j p q b h1 h2 b1 b2=>by
  have e:=hr.inj _ _ p q b (front_at i p h1) (front_at j q h2) b1 b2;cases i with
  | zero=>
   cases j with
   | zero=>rfl
   | succ j=>simp at h2; have:=(List.getElem?_eq_some_iff.1 h2).1; simp only[frontIx] at e; omega
  | succ i=>
   cases j with
   | zero=>simp at h1; have:=(List.getElem?_eq_some_iff.1 h1).1; simp only[frontIx] at e; omega
   | succ j=>simp only[frontIx] at e; omega
 okf:=fun b h=>⟨(hr.okf b h).1,fun k p hk=>(hr.okf b h).2 _ p (front_at k p hk)⟩
 blt:=fun k p b hk hb=>hr.blt _ p b (front_at k p hk) hb
 prot:=hr.prot
 gsz:=hr.gsz
 os:=hr.os
 out:=hr.out
 tape:=hr.tape
 ok0:=hr.ok0
 org:=hr.org
 gl:=hr.gl
theorem RepB.tail {G:Gh} {o:Own} (hr:RepB G (o::ow) w ok):RepB G ow w ok:=hr.reidx (· + 1) (fun k p h=>by simpa using h) (fun i j h=>by omega)
theorem pickK_succ (p:Own):∀ (ks:List Nat) (ow:List Own),pickK (ks.map (· + 1)) (p::ow)=pickK ks ow
 | [],ow=>rfl
 | k::ks,ow=>by simp only[List.map_cons,pickK,List.getElem?_cons_succ,pickK_succ p ks ow]
theorem putK_succ (p:Own):∀ (ks:List Nat) (os ow:List Own),putK (ks.map (· + 1)) os (p::ow)=(putK ks os ow).map (p :: ·)
 | [],os,ow=>by simp[putK]
 | k::ks,[],ow=>by simp[putK]
 | k::ks,o::os,ow=>by simp only[List.map_cons,putK,List.set_cons_succ,putK_succ p ks os]
theorem nodupK_succ:∀ (ks:List Nat),nodupK ks=true→nodupK (0::ks.map (· + 1))=true:=by
 have h1:∀ (ks:List Nat),(ks.map (· + 1)).any (Nat.beq 0)=false:=fun ks=>by
  induction ks with
  | nil=>rfl
  | cons k ks ih=>simp only[List.map_cons,List.any_cons,ih,Bool.or_false]; rfl
 have h2:∀ (k:Nat) (ks:List Nat),(ks.map (· + 1)).any (Nat.beq (k+1))=ks.any (Nat.beq k):=fun k ks=>by
  induction ks with
  | nil=>rfl
  | cons j ks ih=>simp only[List.map_cons,List.any_cons,ih]; rfl
 have h3:∀ (ks:List Nat),nodupK (ks.map (· + 1))=nodupK ks:=fun ks=>by
  induction ks with
  | nil=>rfl
  | cons j ks ih=>simp only[List.map_cons,nodupK,ih,h2]
 intro ks h;simp only[nodupK,h1,h3,h]; rfl
theorem Chg.putObj (w:World) (r:Nat) (o:Obj):Chg w (w.putObj r o) (fun b=>b=r):=⟨rfl,rfl,rfl,by simp,fun b _ h=>World.putObj_heap_other h⟩
def jumpOf:Exit→Option (Option Code)
| .normal=>some none
| .ret=>some (some .ret)
| .exit id=>some (some (.exit id))
| .goto l=>some (some (.goto l))
| _=>none
def putPs:List Tmp→List Dat→List (Nat × Dat)→Nat→Option (List (Nat × Dat))
| [],[],sl,_=>some sl
| p::ps,d::ds,sl,n=>bif Nat.blt p n then putPs ps ds ((p,d)::sl) n else none
| _,_,_,_=>none
theorem putPs_len:∀ {ps:List Tmp} {ds:List Dat} {sl sl':List (Nat × Dat)},putPs ps ds sl n=some sl'→ps.length=ds.length
 | [],[],_,_,_=>rfl
 | p::ps,d::ds,sl,sl',h=>by
  simp only[putPs] at h;cases hb:Nat.blt p n with
  | true=>rw[hb] at h; simp[putPs_len (show putPs ps ds _ n=some sl' from h)]
  | false=>rw[hb] at h; cases h
def putTs (ps:List Tmp) (vs:List Value) (ts:Array Value):Array Value:=(ps.zip vs).foldl (fun t (x:Tmp × Value)=>t.setIfInBounds x.1 x.2) ts
theorem putTs_eq (ps:List Tmp) (vs:List Value) (ts:Array Value):(ps.toArray.zip vs.toArray).foldl (fun t (x:Tmp × Value)=>t.setIfInBounds x.1 x.2) ts=putTs ps vs ts:=by simp[putTs]
theorem putPs_enc:∀ {ps:List Tmp} {ds:List Dat} {vs:List Value} {sl sl':List (Nat × Dat)} {ts:Array Value},putPs ps ds sl n=some sl'→EncL w ok ds vs→n≤ts.size→(∀ t d,lk sl t=some d→t<n∧Enc w ok d (ts.getD t undef)) →
 n≤(putTs ps vs ts).size∧∀ t d,lk sl' t=some d→t<n∧Enc w ok d ((putTs ps vs ts).getD t undef)
 | [],[],vs,sl,sl',ts,h,he,hs,hl=>by
  cases he;obtain rfl:=Option.some.inj (show some sl=some sl' from h);exact⟨hs,hl⟩
 | p::ps,d::ds,_,sl,sl',ts,h,.cons (v:=v) (vs:=vs) h1 hr,hs,hl=>by
  simp only[putPs] at h;cases hb:Nat.blt p n with
  | false=>rw[hb] at h; cases h
  | true=>
   rw[hb] at h;have hp:p<n:=by simpa [Nat.blt_eq] using hb
   exact putPs_enc (sl:=(p,d)::sl) (ts:=ts.setIfInBounds p v) (show putPs ps ds _ n=some sl' from h) hr (by simpa using hs) (fun t e ht=>by
    rw[lk_cons] at ht;by_cases hpt:p=t
    ·subst hpt;rw[if_pos rfl] at ht;obtain rfl:=Option.some.inj ht;exact⟨hp,by rw[getD_set_self (Nat.lt_of_lt_of_le hp hs)]; exact h1⟩
    ·rw[if_neg hpt] at ht;rw[getD_set_ne hpt]; exact hl t e ht)
def RoundT (P:Program) (l:Nat) (args:List Dat) (ow:List Own) (Q:Dat→List Own→Prop):Prop:=
 ∀ w vs ok,RepB (Gh.of w ow ok) ow w ok→EncL w ok args vs →
 YieldAt Fence.wide 0 P l vs.toArray w fun e w'=>∃ v r ow' ok',e = .returned v∧RepB (Gh.of w ow ok) ow' w' ok'∧Enc w' ok' r v∧Q r ow'
def RoundF (X:Prg) (l:Nat) (args:List Dat) (ow:List Own) (d:Value→Dat) (ow':Value→List Own):Prop:=RoundT X.P l args ow fun r o=>∃ x,r=d x∧o=ow' x
theorem OpR.callY {c:Operand} {l:Nat} {xs:Array Operand} {ats:Array TypeId} {ds:List Dat} {d:Value→Dat} {os:List Own} {os' ow':Value→List Own} (ks:List Nat) (hc:ev sl c=some (.fn (.yield l) [] [])) (h:RoundF X l ds os d os')
 (ha:evs sl xs.toList=some ds) (hp:pickK ks ow=some os) (hn:nodupK ks=true) (hq:∀ x,putK ks (os' x) ow=some (ow' x)) :
 OpR X (.call { callee:=.value c,args:=xs,argTypes:=ats }) sl ow d ow':=fun G a w ok hr kn o ho K Qm hK=>by
 obtain⟨dst,op',ty,pos,after,g⟩:=o;dsimp only at ho; subst ho;obtain⟨vs0,us,e1,e2,e3⟩:=(kn c _ hc).fn_inv;cases e2; cases e3;have he:=evs_enc kn ha;obtain⟨fn,ts,asg,body,hy,hround⟩:=h w _ ok (hr.start hp hn) he;have hrun:(execOp a.eval { dst:=dst,op:=.call { callee:=.value c,args:=xs,argTypes:=ats },type:=ty,pos:=pos,after:=after,guard:=g }).run X.P w = .ok (.round l fn ts asg body) w:=by
  have g0:xs.map a.eval=(xs.toList.map a.eval).toArray:=by apply Array.toList_inj.1; simp
  simp[execOp,resolve,e1,Deferred.ofValue,invoke,g0,hy]
 refine⟨fun _ _=>trivial,?_⟩;rw[Oper.semAt_eq _ _ _ (fun c hc=>by cases hc),hrun];refine⟨fun h=>(by cases h),RoundIn.mono (F:=X.F) (show RoundIn X.F (0-1) X.P l fn ts asg body w _ from hround) ?_⟩;rintro e w' ⟨v,r,o',ok',rfl,g2,g3,x,rfl,rfl⟩;obtain⟨g6,g7⟩:=hr.behind hp hn g2 (hq x);exact hK x v w' ok' g6 g3 g7
def RoundG (l:Nat) (ps:List Tmp) (asg body:Code) (sl0:List (Nat × Dat)) (n0:Nat) (Q:Dat→List Own→Prop) (e:Exit) (S:St):Prop:=
 ∃ c S' ks ow',jumpOf e=some c∧Gst S S'∧pickK ks S'.ow=some (.lp l .busy none ps asg body sl0 n0::ow')∧nodupK ks=true∧Q (.val (.bool c.isNone)) (.lp l (if c.isNone then .ready else .done) c ps asg body sl0 n0::ow')
def RoundA (X:Prg) (l:Nat) (ps:List Tmp) (asg body:Code) (sl0:List (Nat × Dat)) (n0:Nat) (Q:Exit→St→Prop) (e:Exit) (S:St):Prop:=
 e = .normal∧∃ sl2 ow2,S=⟨sl2,.lp l .ready none ps asg body sl0 n0::ow2,n0⟩∧T (X.inR l) body ⟨sl2,.lp l .busy none ps asg body sl0 n0::ow2,n0⟩ Q
theorem OwnOk.lp_inv {l:Nat} {st:LoopState} {pend:Option Code} {ps:List Tmp} {asg body:Code} {sl0:List (Nat × Dat)} {n0:Nat} (h:OwnOk w ok (.lp l st pend ps asg body sl0 n0)):∃ (fn:FuncId) (ts:List Value) (D:Nat),w.heap[l]? = some (.loop { state:=st,pending:=pend,fn:=fn,tmps:=ts.toArray,params:=ps.toArray,assign:=asg,body:=body,defers:=D })∧n0≤ts.length∧∀ t d,lk sl0 t=some d→t<n0∧Enc w ok d (ts.toArray.getD t undef):=by
 cases h with|lp hb hn hs=>exact⟨_,_,_,hb,hn,hs⟩
theorem RepB.turn {G:Gh} {l:Nat} {st:LoopState} {pend:Option Code} {ps:List Tmp} {asg body:Code} {sl0:List (Nat × Dat)} {n0:Nat} (hr:RepB G (.lp l st pend ps asg body sl0 n0::ow) w ok) {fn:FuncId} {ts:List Value} {D:Nat}
 (hb:w.heap[l]? = some (.loop { state:=st,pending:=pend,fn:=fn,tmps:=ts.toArray,params:=ps.toArray,assign:=asg,body:=body,defers:=D })) (hn:n0≤ts.length) (hs:∀ t d,lk sl0 t=some d→t<n0∧Enc w ok d (ts.toArray.getD t undef)) (st':LoopState) (pend':Option Code) :
 RepB G (.lp l st' pend' ps asg body sl0 n0::ow) (w.putObj l (.loop { state:=st',pending:=pend',fn:=fn,tmps:=ts.toArray,params:=ps.toArray,assign:=asg,body:=body,defers:=D })) ok∧Stay w (w.putObj l (.loop { state:=st',pending:=pend',fn:=fn,tmps:=ts.toArray,params:=ps.toArray,assign:=asg,body:=body,defers:=D })) ok ok:=by
 have hc:Chg w (w.putObj l (.loop { state:=st',pending:=pend',fn:=fn,tmps:=ts.toArray,params:=ps.toArray,assign:=asg,body:=body,defers:=D })) (fun b=>(Own.lp l st pend ps asg body sl0 n0).block=some b):=(Chg.putObj w l _).imp fun b e=>by rw[e]; rfl
 have hst:=hr.updStay (k:=0) rfl hc;refine⟨hr.upd (k:=0) (o':=.lp l st' pend' ps asg body sl0 n0) rfl hc (.lp (World.putObj_heap_same (Array.getElem?_eq_some_iff.1 hb).1) hn (fun t d h=>⟨(hs t d h).1,(hs t d h).2.mono hst⟩)) (fun m hm=>.inl hm),hst⟩
theorem RoundF.mk {l:Nat} {ps:List Tmp} {A B asg body:Code} {sl0 sl1:List (Nat × Dat)} {n0:Nat} {args:List Dat} {ow0:List Own} {d:Value→Dat} {ow':Value→List Own} (hA:A=asg) (hB:B=body) (hp:putPs ps args sl0 n0=some sl1)
 (h:T (X.inR l) asg ⟨sl1,.lp l .ready none ps asg body sl0 n0::ow0,n0⟩ (RoundA X l ps asg body sl0 n0 (RoundG l ps asg body sl0 n0 (fun r o=>∃ x,r=d x∧o=ow' x)))) :
 RoundF X l args (.lp l .ready none ps A B sl0 n0::ow0) d ow':=by
 subst hA hB;intro w vs ok hr he;obtain⟨fn,ts,D,hb,hn,hs⟩:=(hr.own 0 _ rfl).lp_inv;have hlen:vs.toArray.size=ps.toArray.size:=by have:=he.length; have:=putPs_len hp; simp; omega
 have hy:=run_yield (P:=X.P) (args:=vs.toArray) hb hlen;refine⟨_,_,_,_,hy,roundIn_of_wpIn trivial ?_⟩;rw[putTs_eq];obtain⟨p1,p2⟩:=putPs_enc hp he (ts:=ts.toArray) (by simpa using hn) hs;refine wpIn_mono (h (Gh.of w (.lp l .ready none ps A B sl0 n0::ow0) ok) _ w ok { hr with hd:=.none rfl,hs:=p1,sl:=p2 }) ?_;rintro e a1 w1 ⟨S1,ok1,hr1,rfl,sl2,ow2,rfl,hbody⟩;obtain⟨fn1,ts1,D1,hb1,hn1,hs1⟩:=(hr1.own 0 _ rfl).lp_inv;obtain⟨t1,t2⟩:=hr1.toRepB.turn hb1 hn1 hs1 .busy none;refine⟨_,run_beginRound hb1 rfl,?_⟩;refine wpIn_mono (hbody _ a1 _ ok1 (hr1.step t1 t2)) ?_;rintro e a2 w2 ⟨S2,ok2,hr2,c,S3,ks,ow3,hj,g,hpk,hnd,hq⟩;obtain⟨ok3,hr3⟩:=g _ _ _ _ hr2;have hr4:=hr3.toRepB.pick hpk hnd;obtain⟨fn4,ts4,D4,hb4,hn4,hs4⟩:=(hr4.own 0 _ rfl).lp_inv;obtain⟨t3,t4⟩:=hr4.turn hb4 hn4 hs4 (if c.isNone then .ready else .done) c;have hend:=run_endRound (P:=X.P) c hb4;have fin:∃ v w',(Instr.endRound l c).run X.P w2 = .ok v w'∧∃ v_1 r ow'_1 ok',Ending.returned v = .returned v_1∧RepB (Gh.of w (.lp l .ready none ps A B sl0 n0::ow0) ok) ow'_1 w' ok'∧Enc w' ok' r v_1∧∃ x,r=d x∧ow'_1=ow' x:=⟨_,_,hend,_,_,_,ok3,rfl,t3,.val rfl,hq⟩;cases e <;> simp only[jumpOf,Option.some.injEq] at hj <;> first|(subst hj; exact fin)|cases hj
theorem RoundG.mk {l:Nat} {ps:List Tmp} {asg body:Code} {sl0:List (Nat × Dat)} {n0:Nat} {d:Value→Dat} {ow':Value→List Own} {e:Exit} {S S':St} {c:Option Code} {ks:List Nat} {o2:List Own} (g:Gst S S') (x:Value) (hj:jumpOf e=some c) (hp:pickK ks S'.ow=some (.lp l .busy none ps asg body sl0 n0::o2)) (hn:nodupK ks=true)
 (h1 : .val (.bool c.isNone)=d x) (h2 : .lp l (if c.isNone then .ready else .done) c ps asg body sl0 n0::o2=ow' x):RoundG l ps asg body sl0 n0 (fun r o=>∃ x,r=d x∧o=ow' x) e S:=⟨c,S',ks,o2,hj,g,hp,hn,x,h1,h2⟩
theorem RoundG.ghost {l:Nat} {ps:List Tmp} {asg body:Code} {sl0:List (Nat × Dat)} {n0:Nat} {R:Dat→List Own→Prop}:∀ S S',Gst S S'→RoundG l ps asg body sl0 n0 R .normal S'→RoundG l ps asg body sl0 n0 R .normal S:=
 fun _ _ g ⟨c,S2,ks,o,h1,g2,h3⟩=>⟨c,S2,ks,o,h1,Gst.trans g g2,h3⟩
theorem RoundA.mk {l:Nat} {ps:List Tmp} {asg body:Code} {sl0 sl2:List (Nat × Dat)} {n0:Nat} {ow2:List Own} {Q:Exit→St→Prop} (h:T (X.inR l) body ⟨sl2,.lp l .busy none ps asg body sl0 n0::ow2,n0⟩ Q):RoundA X l ps asg body sl0 n0 Q .normal ⟨sl2,.lp l .ready none ps asg body sl0 n0::ow2,n0⟩:=⟨rfl,_,_,rfl,h⟩
theorem T.rangeF {g:Operand} {ps:Array Tmp} {pl:List Tmp} {asg body A B:Code} {gf:FuncId} {cs:List Dat} {os:List Own} {os1 ow1:Value→List Own} {d:Value→Dat} {sl0:List (Nat × Dat)} {st:LoopState} {c:Option Code} (qs ks:List Nat)
 (hx:X.rd=none∨∃ (l0 k:Nat) (st:LoopState) (pend:Option Code) (ps:List Tmp) (asg body:Code) (sl:List (Nat × Dat)) (n:Nat),X.rd=some l0∧ow[k]? = some (Own.lp l0 st pend ps asg body sl n))
 (hps:ps=pl.toArray) (hA:A=asg) (hB:B=body) (hq:Go.Sm.only qs sl []=some sl0) (hg:ev sl g=some (.fn (.func gf) [] cs)) (hfn:IsFn X gf) (hp:pickK ks ow=some os) (hn:nodupK ks=true) (hst:st ≠ .busy)
 (h:∀ l,CallF X gf (.fn (.yield l) [] []::cs) (.lp l .ready none pl A B sl0 n::os) d (fun x=>.lp l st c pl A B sl0 n::os1 x))
 (hw:∀ x,putK ks (os1 x) ow=some (ow1 x))
 (hk:∀ x,(match c with|none=>Q .normal ⟨sl,ow1 x,n⟩|some c=>T X c ⟨sl,ow1 x,n⟩ Q)):T X (.rangeFunc g ps asg body) ⟨sl,ow,n⟩ Q:=by
 subst hps hA hB;intro G a w ok hr;obtain⟨vs0,us,e1,e2,e3⟩:=(hr.kn g _ hg).fn_inv;cases e2;obtain⟨fn,hf,hname,hbd⟩:=hfn;have hname':fn.name ≠ "runtime.NumGoroutine":=by simpa using hname
 obtain⟨cb,hcb⟩:=Option.isSome_iff_exists.1 hbd;refine wpIn_rangeFunc fun fid _=>?_;have main:∀ (l:Nat) (mk:List Deferred) (w1:World) (ok1:Nat→Prop),(Instr.enterLoop fid a.tmps pl.toArray A B X.F.round).run X.P w = .ok (l,mk) w1→RepB G (.lp l .ready none pl A B sl0 n::ow) w1 ok1→Stay w w1 ok ok1→Marks G { a with defers:=mk++a.defers } w1 ok1 →
  ∃ (l:Nat) (mark:List Deferred) (w₁:World) (d:Deferred) (w₁':World) (f:FuncId) (args:Array Value) (w₂:World),
  (Instr.enterLoop fid a.tmps pl.toArray A B X.F.round).run X.P w = .ok (l,mark) w₁ ∧
  (resolve a.eval (rangeCall g l) 0).run X.P w₁ = .ok d w₁' ∧
  (∀ f',Target.leads X.P w₁' d.target d.args=some f'→X.F.fn f') ∧
  (invoke d.target d.args).run X.P w₁' = .ok (.enter f args) w₂ ∧
  (X.F.depth.isSome=true→1≤0) ∧
  CallsIn X.F (0-1) X.P f args w₂ (rangePost X.F 0 X.P l (Lift G Q) { a with defers:=mark++a.defers }):=by
  intro l mk w1 ok1 hen hr1 hs1 hm;have hp1:pickK (0::ks.map (· + 1)) (.lp l .ready none pl A B sl0 n::ow)=some (.lp l .ready none pl A B sl0 n::os):=by
   simp only[pickK,List.getElem?_cons_zero,pickK_succ,hp]
  have hn1:=nodupK_succ ks hn;have he:EncL w1 ok1 (.fn (.yield l) [] []::cs) (.func (.yield l) #[] #[]::us):=.cons (.fn (vs:=[]) (us:=[]) .nil .nil) (e3.mono hs1);refine⟨l,mk,w1,{ target:=.fn (.func gf) us.toArray,args:=#[.func (.yield l) #[] #[]] },w1,gf,(.func (.yield l) #[] #[]::us).toArray,w1,hen,?_,fun _ _=>trivial,?_,fun h=>(by cases h),?_⟩
  ·have g1:a.eval (.const (.func (.yield l) #[] #[])) = .func (.yield l) #[] #[]:=rfl;simp[resolve,e1,Deferred.ofValue,g1]
  ·simp[invoke,callFunc,hf,hname',hcb]
  ·have hcall:=h l w1 _ ok1 (hr1.start hp1 hn1) he;refine CallsIn.mono (F:=X.F) (show CallsIn X.F (0-1) X.P gf _ w1 _ from (callsIn_wide (n:=0)).2 hcall) ?_;rintro e w3 ⟨v,r,ow3,ok3,rfl,hr3,_,x,rfl,rfl⟩;have hput:putK (0::ks.map (· + 1)) (.lp l st c pl A B sl0 n::os1 x) (.lp l .ready none pl A B sl0 n::ow)=some (.lp l st c pl A B sl0 n::ow1 x):=by
    simp only[putK,List.set_cons_zero,putK_succ,hw x,Option.map_some]
   obtain⟨hr4,hs4⟩:=hr1.behind hp1 hn1 hr3 hput;obtain⟨fn4,ts4,D4,hb4,hn4,hsl4⟩:=(hr4.own 0 _ rfl).lp_inv;obtain⟨t1,t2⟩:=hr4.turn hb4 hn4 hsl4 .exhausted c;have hend:=run_endLoop (P:=X.P) hb4 hst;have hall:=(hs1.trans hs4).trans t2;have hrep:Rep G ⟨sl,ow1 x,n⟩ { a with defers:=mk++a.defers } (w3.putObj l (.loop { state:=.exhausted,pending:=c,fn:=fn4,tmps:=ts4.toArray,params:=pl.toArray,assign:=A,body:=B,defers:=D4 })) ok3:=
    { t1.tail with hd:=hm.mono (hs4.trans t2),hs:=hr.hs,sl:=fun t e ht=>⟨(hr.sl t e ht).1,(hr.sl t e ht).2.mono hall⟩ }
   refine⟨c,_,hend,?_⟩;cases c with
   | none=>exact⟨_,_,hrep,hk x⟩
   | some c=>exact hk x G _ _ _ hrep
 have slots:∀ {w1:World} {ok1:Nat→Prop},Stay w w1 ok ok1→∀ t e,lk sl0 t=some e→t<n∧Enc w1 ok1 e (a.tmps.toList.toArray.getD t undef):=fun s t e ht=>by
  have:=hr.sl t e (only_lk qs sl [] sl0 hq (fun _ _ h=>by simp[lk] at h) t e ht);exact⟨this.1,by simpa using this.2.mono s⟩
 have hsz:n≤a.tmps.toList.length:=by have:=hr.hs; simpa using this
 rcases hx with hx|⟨l0,k,st0,pend0,ps0,asg0,body0,sl00,n0,hx,hk0⟩
 ·have hc1:=Chg.alloc w (.deferred (some [])) (fun _=>False);have r1:=hr.toRepB.newOk hc1 (Nat.le_refl _) (by rw[alloc_size]; omega);have s1:Stay w (w.alloc (.deferred (some []))) ok (fun m=>ok m∨m=w.heap.size):=(hr.toRepB.stay0 hc1).trans (stayOk fun _ h=>.inl h);have hc2:=Chg.alloc (w.alloc (.deferred (some []))) (.loop { state:=.ready,pending:=none,fn:=fid,tmps:=a.tmps.toList.toArray,params:=pl.toArray,assign:=A,body:=B,defers:=w.heap.size }) (fun _=>False);have s2:=r1.stay0 hc2;have r2:=(r1.newOwn' hc2 (b:=(w.alloc (.deferred (some []))).heap.size) (.lp (st:=.ready) (pend:=none) (alloc_new _ _) hsz (slots (s1.trans s2))) (fun m hm=>(Option.some.inj hm).symm) (Nat.le_refl _) (by rw[alloc_size (w.alloc (.deferred (some [])))]; exact Nat.lt_succ_self _)).front;refine main _ [mark w.heap.size] _ _ ?_ (by simpa using r2) (s1.trans s2) ?_
  ·rw[show X.F.round=none from hx];have:=run_enterLoop_outer (P:=X.P) (w:=w) fid a.tmps pl.toArray A B;simpa [mark] using this
  ·obtain⟨Ds,d1,d2,d3⟩:=hr.hd;have s12:=s1.trans s2;refine⟨w.heap.size::Ds,by simp[d1],List.nodup_cons.2 ⟨fun hm=>?_,d2⟩,fun D hD=>?_⟩
   ·exact Nat.lt_irrefl _ (hr.okf _ (d3 _ hm).1).1
   ·rcases List.mem_cons.1 hD with rfl|hD
    ·refine⟨.inr rfl,hr.gsz,?_⟩;rw[s2.hw _ (.inr rfl)];exact alloc_new _ _
    ·obtain⟨p1,p2,p3⟩:=d3 D hD;exact⟨s12.ho D p1,p2,(s12.hw D p1).trans p3⟩
 ·obtain⟨fn0,ts0,D0,hb0,_,_⟩:=(hr.own k _ hk0).lp_inv;have hc2:=Chg.alloc w (.loop { state:=.ready,pending:=none,fn:=fid,tmps:=a.tmps.toList.toArray,params:=pl.toArray,assign:=A,body:=B,defers:=D0 }) (fun _=>False);have s2:=hr.toRepB.stay0 hc2;have r2:=(hr.toRepB.newOwn' hc2 (b:=w.heap.size) (.lp (st:=.ready) (pend:=none) (alloc_new _ _) hsz (slots s2)) (fun m hm=>(Option.some.inj hm).symm) (Nat.le_refl _) (by rw[alloc_size]; omega)).front;refine main _ [] _ _ ?_ (by simpa using r2) s2 (by simpa using hr.hd.mono s2);rw[show X.F.round=some l0 from hx];have:=run_enterLoop_inner (P:=X.P) hb0 fid a.tmps pl.toArray A B;simpa using this
theorem T.rangeN {g:Operand} {ps:Array Tmp} {pl:List Tmp} {asg body A B:Code} {gf:FuncId} {cs:List Dat} {os:List Own} {os1 ow1:Value→List Own} {d:Value→Dat} {sl0:List (Nat × Dat)} (qs ks:List Nat)
 (hx:X.rd=none∨∃ (l0 k:Nat) (st:LoopState) (pend:Option Code) (ps:List Tmp) (asg body:Code) (sl:List (Nat × Dat)) (n:Nat),X.rd=some l0∧ow[k]? = some (Own.lp l0 st pend ps asg body sl n))
 (hps:ps=pl.toArray) (hA:A=asg) (hB:B=body) (hq:Go.Sm.only qs sl []=some sl0) (hg:ev sl g=some (.fn (.func gf) [] cs)) (hfn:IsFn X gf) (hp:pickK ks ow=some os) (hn:nodupK ks=true)
 (h:∀ l,CallF X gf (.fn (.yield l) [] []::cs) (.lp l .ready none pl A B sl0 n::os) d (fun x=>.lp l .ready none pl A B sl0 n::os1 x))
 (hw:∀ x,putK ks (os1 x) ow=some (ow1 x)) (hk:∀ x,Q .normal ⟨sl,ow1 x,n⟩):T X (.rangeFunc g ps asg body) ⟨sl,ow,n⟩ Q:=
 T.rangeF (c:=none) qs ks hx hps hA hB hq hg hfn hp hn (by decide) h hw hk
theorem T.rangeJ {g:Operand} {ps:Array Tmp} {pl:List Tmp} {asg body A B:Code} {gf:FuncId} {cs:List Dat} {os:List Own} {os1 ow1:Value→List Own} {d:Value→Dat} {sl0:List (Nat × Dat)} (c:Code) (qs ks:List Nat)
 (hx:X.rd=none∨∃ (l0 k:Nat) (st:LoopState) (pend:Option Code) (ps:List Tmp) (asg body:Code) (sl:List (Nat × Dat)) (n:Nat),X.rd=some l0∧ow[k]? = some (Own.lp l0 st pend ps asg body sl n))
 (hps:ps=pl.toArray) (hA:A=asg) (hB:B=body) (hq:Go.Sm.only qs sl []=some sl0) (hg:ev sl g=some (.fn (.func gf) [] cs)) (hfn:IsFn X gf) (hp:pickK ks ow=some os) (hn:nodupK ks=true)
 (h:∀ l,CallF X gf (.fn (.yield l) [] []::cs) (.lp l .ready none pl A B sl0 n::os) d (fun x=>.lp l .done (some c) pl A B sl0 n::os1 x))
 (hw:∀ x,putK ks (os1 x) ow=some (ow1 x)) (hk:∀ x,T X c ⟨sl,ow1 x,n⟩ Q):T X (.rangeFunc g ps asg body) ⟨sl,ow,n⟩ Q:=
 T.rangeF (c:=some c) qs ks hx hps hA hB hq hg hfn hp hn (by decide) h hw hk
theorem Gst.truncM {α:Type} (f:α→Dat) {v:Value} {l r:List α} {sz:Nat} {e:TypeId} {q:Int} {ow':List Own} (k:Nat) (h:cut l 0 q=some r) (hb:ow[k]? = some (.row v (l.map f) sz e)) (hk:setK k (.row (vw v (0:Int).toNat q.toNat sz) (r.map f) sz e) ow some=some ow'):Gst ⟨sl,ow,n⟩ ⟨sl,ow',n⟩:=fun G a w ok hr=>by
 obtain rfl:=Option.some.inj (setK_eq _ _ _ _ _ hk);obtain⟨⟨h1,h2,h3⟩,rfl⟩:=cut_some h;have hc:=Chg.refl w (fun b=>(Own.row v (l.map f) sz e).block=some b);have key:OwnOk w ok (.row (vw v (0:Int).toNat q.toNat sz) (((l.take q.toNat).drop (0:Int).toNat).map f) sz e)∧(Own.row (vw v (0:Int).toNat q.toNat sz) (((l.take q.toNat).drop (0:Int).toNat).map f) sz e).block=(Own.row v (l.map f) sz e).block:=by
  rw[show (0:Int).toNat=0 from rfl,List.drop_zero];rcases (hr.own k _ hb).row_inv with ⟨rfl,h0⟩|⟨b,c,vs,us,rfl,hc,hm,hh,hz,he,h1',hs⟩
  ·have:l=[]:=by simpa using h0
   subst this;simp only[vw,List.take_nil,List.map_nil];exact⟨.nil,trivial⟩
  ·have hq:q.toNat≤l.length:=by omega
   have hlen:=flat_len hs;have hel:=he.length;rw[List.length_map] at hc hlen;have hv:vw (.slice (some ⟨b,0,none⟩) (l.map f).length c) 0 q.toNat sz = .slice (some ⟨b,0,none⟩) q.toNat c:=by
    simp only[vw];by_cases c0:c=0
    ·subst c0;have:q.toNat=0:=by omega
     simp[this]
    ·rw[if_neg c0];simp[Addr.add]
   rw[hv];refine⟨.row (vs:=vs.take (q.toNat*sz)) (us:=vs.drop (q.toNat*sz)++us) (by simp; omega) (by omega) hm (by rw[← List.append_assoc,List.take_append_drop]; exact hh) (by rw[← List.append_assoc,List.take_append_drop]; exact hz) ?_ (fun u hu=>h1' u (List.mem_of_mem_take hu)) (fun d hd=>hs d ?_),rfl⟩
   ·have:=he.take (q.toNat*sz);rwa[← flat_take hs,← List.map_take] at this
   ·rw[List.map_take] at hd; exact List.mem_of_mem_take hd
 exact⟨ok,{ hr.toRepB.upd hb hc key.1 (fun m hm=>.inl (key.2▸hm)) with hd:=hr.hd,hs:=hr.hs,sl:=hr.sl }⟩
def lft:Code→Code
| .seq a _=>a
| .cond _ a _=>a
| .block _ a=>a
| .loop a=>a
| .scope a=>a
| .rangeFunc _ _ a _=>a
| c=>c
def rgt:Code→Code
| .seq _ b=>b
| .cond _ _ b=>b
| .rangeFunc _ _ _ b=>b
| c=>c
end
end Go.Sm
