import Derived.Test.YtpmhiiemklhbhaaGreatS8
import Derived.Scope
set_option linter.unusedVariables false
namespace Go.Sm
section
variable {X:Prg} {Q Q0:Exit→St→Prop} {sl:List (Nat × Dat)} {ow:List Own} {n:Nat}
theorem Gst.only {sl':List (Nat × Dat)} (ks:List Nat) (h:only ks sl []=some sl'):Gst ⟨sl,ow,n⟩ ⟨sl',ow,n⟩:=fun _ _ _ ok hr=>⟨ok,hr.forget (only_lk ks sl [] sl' h (fun _ _ h=>by simp[lk] at h))⟩
theorem Gst.refl (S:St):Gst S S:=fun _ _ _ ok hr=>⟨ok,hr⟩
abbrev Cut (M:St→Prop) (Q:Exit→St→Prop):Exit→St→Prop
| .normal,S'=>∃ S'',Gst S' S''∧M S''
| e,S'=>Q e S'
theorem zz {c y:Code} {S:St} (M:St→Prop) (hq:∀ S',T X y S' Q0→Q .normal S') (h1:T X c S (Cut M Q)) (h2:∀ S',M S'→T X y S' Q0):T X c S Q:=fun G a w ok hr=>
 wpIn_mono (h1 G a w ok hr) fun e a' w' ⟨S',ok',h3,h4⟩=>by
  cases e with
  | normal=>obtain⟨S'',g,hm⟩:=h4; exact⟨S',ok',h3,hq S' (T.ghost g (h2 S'' hm))⟩
  | _=>exact⟨S',ok',h3,h4⟩
def yw (X:Prg) (rs:List ResultVar) (Q:Dat→List Own→Prop) (e:Exit) (S:St):Prop:=(e = .normal∨e = .ret)∧∃ S' ds,Gst S S'∧ResL X S' rs ds∧∃ ks ow',uC ks S'.ow=some ow'∧wS ks=true∧Q (pack ds) ow'
theorem zg (hx:X.rd=none) {f:FuncId} {fn:Func} {c:Code} {args:List Dat} {d:Value→Dat} {ow':Value→List Own} (hf:X.P.funcs[f]? = some fn) (hb:fn.body=some c) {rs:List ResultVar} (hrs:fn.results=rs.toArray) {m:Nat} (hn:fn.ntmps=m)
 (ha:Nat.ble args.length m=true) {sl:List (Nat × Dat)} (hsl:idxK 0 args []=some sl) (h:T X c ⟨sl,ow,m⟩ (yw X rs fun r o=>∃ x,r=d x∧o=ow' x)):zn X f args ow d ow':=by
 intro w vs ok hr he;have ha':args.length≤m:=Nat.le_of_ble_eq_true ha;have hl:=he.length;refine callT_of_wp hx hf hb hr (h (Gh.of w ow ok) _ w ok { hr with hd:=.none rfl,hs:=?_,sl:=?_ }) ?_
 ·simp[hn]; omega
 ·intro t d ht;rcases idxK_lk args 0 [] sl hsl t d ht with h1|⟨_,h1⟩
  ·simp[lk] at h1
  ·obtain⟨v,h2,h3⟩:=he.get _ h1;have hlt:t<vs.length:=by
    have:=(List.getElem?_eq_some_iff.1 h2).1; simpa using this
   refine⟨?_,?_⟩
   ·show t<m;omega
   ·have:(vs.toArray++Array.replicate (fn.ntmps-vs.toArray.size) undef).getD t undef=v:=by
     rw[Array.getD_eq_getD_getElem?,Array.getElem?_append_left (by simpa using hlt)];simp only[Nat.sub_zero] at h2;simp[h2]
    rw[this]; exact h3
 ·intro e S1 ⟨h2,S2,ds,g,h3,ks,o2,hp,hnd,h4⟩;exact⟨h2,fun a' w' ok1 h1=>by
   obtain⟨ok2,h5⟩:=g _ a' w' ok1 h1;obtain⟨v,h6,h7⟩:=pd h5 hrs h3;exact⟨v,h6,_,_,ok2,h5.toRepB.pick hp hnd,h7,h4⟩⟩
theorem zC {rs:List ResultVar} {d:Value→Dat} {ow':Value→List Own} {S S':St} {ds:List Dat} {ks:List Nat} {o2:List Own} (g:Gst S S') (x:Value) (h:ResL X S' rs ds) (hp:uC ks S'.ow=some o2) (hn:wS ks=true) (h1:pack ds=d x) (h2:o2=ow' x):yw X rs (fun r o=>∃ x,r=d x∧o=ow' x) .ret S:=⟨.inr rfl,S',ds,g,h,ks,o2,hp,hn,x,h1,h2⟩
theorem xj {rs:List ResultVar} {d:Value→Dat} {ow':Value→List Own} {S S':St} {ds:List Dat} {ks:List Nat} {o2:List Own} (g:Gst S S') (x:Value) (h:ResL X S' rs ds) (hp:uC ks S'.ow=some o2) (hn:wS ks=true) (h1:pack ds=d x) (h2:o2=ow' x):yw X rs (fun r o=>∃ x,r=d x∧o=ow' x) .normal S:=⟨.inl rfl,S',ds,g,h,ks,o2,hp,hn,x,h1,h2⟩
end
theorem T.cutN {X:Prg} {Q:Exit→St→Prop} {c:Code} {S:St} (M:St→Prop) (hq:∀ S' S'',Gst S' S''→Q .normal S''→Q .normal S') (h1:T X c S (Cut M Q)) (h2:∀ S',M S'→Q .normal S'):T X c S Q:=
 h1.mono fun e S' h=>by
  cases e with
  | normal=>obtain⟨S'',g,hm⟩:=h; exact hq S' S'' g (h2 S'' hm)
  | _=>exact h
def Jump (l:Nat) (J:St→Prop) (Q:Exit→St→Prop):Exit→St→Prop
| .goto l',S=>l'=l∧J S
| e,S=>Q e S
abbrev JumpN (l:Nat) (I:Nat→St→Prop) (n:Nat) (Q:Exit→St→Prop):Exit→St→Prop
| .goto l',S=>l'=l∧∃ m,m<n∧I m S
| e,S=>Q e S
def ScopeT (X:Prg) (c rest:Code) (Q:Exit→St→Prop) (S:St):Prop:=∀ G a w ok,Rep G S a w ok→∀ (b:Frame) (k:List Item) (cs:List Frame),∃ e a' w',Lift G Q e a' w'∧Arrives X.P (lone (b.at a (.code rest :: .inScope c::k)) cs w) b k cs e a' w'
theorem T.wp {X:Prg} {Q:Exit→St→Prop} {S:St} {c:Code} (hx:X.rd=none) (h:T X c S Q):∀ G a w ok,Rep G S a w ok→c.wp X.P (Lift G Q) a w:=fun G a w ok hr=>by
 have:=h G a w ok hr;rw[Prg.F_wide hx] at this;exact wpIn_wide.1 this
theorem T.of_wp {X:Prg} {Q:Exit→St→Prop} {S:St} {c:Code} (hx:X.rd=none) (h:∀ G a w ok,Rep G S a w ok→c.wp X.P (Lift G Q) a w):T X c S Q:=fun G a w ok hr=>by
 rw[Prg.F_wide hx];exact wpIn_wide.2 (h G a w ok hr)
theorem T.scope {X:Prg} (hx:X.rd=none) {Q:Exit→St→Prop} {S:St} {c rest:Code} (l:Nat) (hf:findLabel c l=some rest) (h:T X c S (Jump l (ScopeT X c rest Q) Q)):T X (.scope c) S Q:=T.of_wp hx fun G a w ok hr b k cs=>by
 have hg:gotoIn l (.inScope c::k)=some (.code rest :: .inScope c::k):=by simp[gotoIn,hf]
 obtain⟨e,a₁,w₁,⟨S₁,ok₁,hr₁,hq⟩,harr⟩:=h.wp hx G a w ok hr b (.inScope c::k) cs;cases e with
 | normal=>exact⟨.normal,a₁,w₁,⟨S₁,ok₁,hr₁,hq⟩,.head step_scope (Steps.trans harr (.one step_inScope))⟩
 | exit id=>exact⟨.exit id,a₁,w₁,⟨S₁,ok₁,hr₁,hq⟩,fun k' hk=>.head step_scope (harr k' (by simp[exitTo,hk]))⟩
 | goto l'=>
  obtain⟨rfl,hJ⟩:=hq;obtain⟨e₂,a₂,w₂,hq₂,harr₂⟩:=hJ G a₁ w₁ ok₁ hr₁ b k cs;exact⟨e₂,a₂,w₂,hq₂,.of_steps (.head step_scope (harr _ hg)) harr₂⟩
 | ret=>exact⟨_,a₁,w₁,⟨S₁,ok₁,hr₁,hq⟩,.of_steps (.one step_scope) harr⟩
 | panic ch=>exact⟨_,a₁,w₁,⟨S₁,ok₁,hr₁,hq⟩,.of_steps (.one step_scope) harr⟩
 | outgrown=>exact⟨_,a₁,w₁,⟨S₁,ok₁,hr₁,hq⟩,.of_steps (.one step_scope) harr⟩
theorem ScopeT.of {X:Prg} (hx:X.rd=none) {Q:Exit→St→Prop} {c rest:Code} {l:Nat} (hf:findLabel c l=some rest) {I:Nat→St→Prop} (pass:∀ n S,I n S→T X rest S (JumpN l I n Q)):∀ n S,I n S→ScopeT X c rest Q S:=by
 intro n
 induction n using Nat.strongRecOn with
 | _ n ih=>
  intro S hI G a w ok hr b k cs;have hg:gotoIn l (.inScope c::k)=some (.code rest :: .inScope c::k):=by simp[gotoIn,hf]
  obtain⟨e,a₁,w₁,⟨S₁,ok₁,hr₁,hq⟩,harr⟩:=(pass n S hI).wp hx G a w ok hr b (.inScope c::k) cs;cases e with
  | normal=>exact⟨.normal,a₁,w₁,⟨S₁,ok₁,hr₁,hq⟩,Steps.trans harr (.one step_inScope)⟩
  | exit id=>exact⟨.exit id,a₁,w₁,⟨S₁,ok₁,hr₁,hq⟩,fun k' hk=>harr k' (by simp[exitTo,hk])⟩
  | goto l'=>
   obtain⟨rfl,m,hlt,hI'⟩:=hq;obtain⟨e₂,a₂,w₂,hq₂,harr₂⟩:=ih m hlt S₁ hI' G a₁ w₁ ok₁ hr₁ b k cs;exact⟨e₂,a₂,w₂,hq₂,.of_steps (harr _ hg) harr₂⟩
  | ret=>exact⟨_,a₁,w₁,⟨S₁,ok₁,hr₁,hq⟩,harr⟩
  | panic ch=>exact⟨_,a₁,w₁,⟨S₁,ok₁,hr₁,hq⟩,harr⟩
  | outgrown=>exact⟨_,a₁,w₁,⟨S₁,ok₁,hr₁,hq⟩,harr⟩
theorem T.atLabelS {X:Prg} (hx:X.rd=none) {Q:Exit→St→Prop} {S:St} {c y:Code} {l:Nat} (hf:findLabel c l=some (.seq .skip y)) (I:Nat→St→Prop) (n:Nat) (hI:I n S) (pass:∀ n S,I n S→T X y S (JumpN l I n Q)):T X y S (Jump l (ScopeT X c (.seq .skip y) Q) Q):=
 (pass n S hI).mono fun e S' h=>by
  cases e with
  | goto l'=>
   obtain⟨h1,m,_,h2⟩:=h;exact⟨h1,ScopeT.of hx hf (fun n S hi=>T.seq (T.skip (show T X y S _ from pass n S hi))) m S' h2⟩
  | _=>exact h
theorem idx_nil {α:Type} {j:Int} {a:α} (h:idx ([]:List α) j=some a):False:=by have:=(ui h).2; simp at this
inductive RNil:Dat→Dat→Prop
  | nil {sz:Nat}:RNil (.val (.slice none 0 0)) (.sl sz [])
theorem RNil.enc {w:World} {ok:Nat→Prop}:∀ (d d':Dat) (v:Value),RNil d d'→Enc w ok d v→Enc w ok d' v
 | _,_,_,.nil,h=>by rw[h.val_inv.1]; exact .slnil
theorem Gst.denil {sl sl':List (Nat × Dat)} {ow ow':List Own} {n:Nat} (hs:ReS RNil sl sl') (ho:ReO RNil ow ow'):Gst ⟨sl,ow,n⟩ ⟨sl',ow',n⟩:=fun G a w ok hr=>⟨ok,hr.re RNil.enc hs ho⟩
theorem OpR.wk {X:Prg} {op:Op} {sl:List (Nat × Dat)} {ow:List Own} {d d':Value→Dat} {ow':Value→List Own} (h:OpR X op sl ow d ow') (hr:∀ x,Re RNil (d x) (d' x)):OpR X op sl ow d' ow':=
 fun G a w ok hb kn o ho K Qm hK=>h G a w ok hb kn o ho K Qm fun x v w' ok' h1 h2 h3=>hK x v w' ok' h1 (Enc.re RNil.enc (fun _ _ h=>h) (hr x) h2) h3
def keepS (l:List Oper) (vs:List Dat) (base:List (Nat × Dat)):List Nat→Option (List (Nat × Dat))
 | []=>some []
 | t::ts=>match slE l vs base t,keepS l vs base ts with
  | some d,some r=>some ((t,d)::r)
  | _,_=>none
theorem keepS_lk {l:List Oper} {vs:List Dat} {base:List (Nat × Dat)}:∀ {ts:List Nat} {sl':List (Nat × Dat)},keepS l vs base ts=some sl'→∀ t d,lk sl' t=some d→slE l vs base t=some d
 | [],sl',h,t,d,hl=>by simp[keepS] at h; subst h; simp[lk] at hl
 | u::ts,sl',h,t,d,hl=>by
  simp only[keepS] at h;split at h
  ·rename_i e r h1 h2;obtain rfl:=Option.some.inj h;rw[sq] at hl;split at hl
   ·rename_i e'; subst e';obtain rfl:=Option.some.inj hl;exact h1
   ·exact keepS_lk h2 t d hl
  ·cases h
section
variable {X:Prg} {l:List Oper} {vals:List Dat} {ow:List Own} {base:List (Nat × Dat)} {n:Nat} {Q:Exit→St→Prop}
def zq (X:Prg) (l:List Oper) (vals:List Dat) (ow:List Own) (base:List (Nat × Dat)):Nat→List Oper→Prop
| _,[]=>True
| i,o::os=>(∃ yes,Want l (knS l vals base o) o yes∧(yes=true→OpR X o.op (knS l vals base o) ow (fun _=>(vals[i]?).getD .dead) (fun _=>ow))∧(yes=false→vals[i]? = some (.tup [])))∧zq X l vals ow base (i+1) os
theorem zq.nil {i:Nat}:zq X l vals ow base i []:=trivial
theorem zq.yes {i:Nat} {o:Oper} {os:List Oper} {d:Dat} (hw:Want l (knS l vals base o) o true) (hd:(vals[i]?).getD .dead=d) (h:OpR X o.op (knS l vals base o) ow (fun _=>d) (fun _=>ow)) (hr:zq X l vals ow base (i+1) os):zq X l vals ow base i (o::os):=
 ⟨⟨true,hw,fun _=>hd▸h,fun h=>by cases h⟩,hr⟩
theorem zq.no {i:Nat} {o:Oper} {os:List Oper} (hw:Want l (knS l vals base o) o false) (hd:vals[i]? = some (.tup [])) (hr:zq X l vals ow base (i+1) os):zq X l vals ow base i (o::os):=
 ⟨⟨false,hw,fun h=>by (cases h),fun _=>hd⟩,hr⟩
theorem zq.toS {pre:List Nat}:∀ {os:List Oper} {i:Nat},zq X l vals ow base i os→xd X l (fun _=>vals) (fun _ _=>ow) base pre i os
 | [],_,_=>trivial
 | o::os,i,⟨⟨yes,h1,h2,h3⟩,h⟩=>⟨⟨yes,fun D env _=>⟨⟨h1,h2,fun e=>⟨h3 e,rfl⟩⟩,fun _ _ _ _ _=>rfl⟩⟩,zq.toS h⟩
theorem yo {id:Nat} (hm:X.P.follows .mixedOrders=true) (vals:List Dat) (ts:List Nat) (hok:(qd l 0 l&&dstLt n l)=true) (hlen:vals.length=l.length) (hops:zq X l vals ow base 0 l)
 {sl':List (Nat × Dat)} (hts:keepS l vals base ts=some sl') (hfin:Q .normal ⟨sl',ow,n⟩):T X (.region id l.toArray true) ⟨base,ow,n⟩ Q:=
 T.draw hm (fun _=>vals) (fun _ _=>ow) (preL l []) hok rfl (fun _=>hlen) (fun _=>rfl) hops.toS (fun env=>⟨sl',keepS_lk hts,hfin⟩)
variable {valsE:(Nat→Value)→List Dat} {OW:(Nat→Bool)→(Nat→Value)→List Own} {pre:List Nat}
theorem OpS.yes {i:Nat} {o:Oper} {D:Nat→Bool} {env:Nat→Value} {o0:List Own} {o1:Value→List Own} {d:Value→Dat} (hw:Want l (knS l (valsE env) base o) o true) (e0:OW D env=o0) (e1:∀ x,OW (ins i D) (upd env i x)=o1 x)
 (hd:∀ x,((valsE (upd env i x))[i]?).getD .dead=d x) (h:OpR X o.op (knS l (valsE env) base o) o0 d o1):OpS X l valsE OW base pre i o true D env:=
 ⟨hw,fun _=>by rw[e0,funext e1,funext hd]; exact h,fun h=>by cases h⟩
def pt:List (Nat × Bool)→(Nat→Bool)→Nat→Bool
| [],D=>D
| (k,b)::r,D=>fun j=>bif Nat.beq k j then b else pt r D j
def Agr (D:Nat→Bool):List (Nat × Bool)→Prop
| []=>True
| (k,b)::r=>D k=b∧Agr D r
theorem pt_eq {D:Nat→Bool}:∀ {ks:List (Nat × Bool)},Agr D ks→pt ks D=D
 | [],_=>rfl
 | (k,b)::r,h=>by
  funext j;simp only[pt,pt_eq h.2,beqN];by_cases e:k=j
  ·subst e; rw[decide_eq_true rfl,cond_true,h.1]
  ·rw[decide_eq_false e,cond_false]
theorem zI {i:Nat} {o:Oper} {D:Nat→Bool} {env:Nat→Value} {o1:Value→List Own} {d:Value→Dat} (ks:List (Nat × Bool)) (ha:Agr D ks) (hw:Want l (knS l (valsE env) base o) o true) (h:OpR X o.op (knS l (valsE env) base o) (OW (pt ks D) env) d o1)
 (e1:∀ x,OW (ins i (pt ks D)) (upd env i x)=o1 x) (hd:∀ x,((valsE (upd env i x))[i]?).getD .dead=d x):OpS X l valsE OW base pre i o true D env:=
 OpS.yes hw (by rw[pt_eq ha]) (fun x=>by rw[← e1 x,pt_eq ha]) hd h
theorem OpS.no {i:Nat} {o:Oper} {D:Nat→Bool} {env:Nat→Value} (hw:Want l (knS l (valsE env) base o) o false) (hd:(valsE env)[i]? = some (.tup [])) (e:OW (ins i D) env=OW D env):OpS X l valsE OW base pre i o false D env:=
 ⟨hw,fun h=>by (cases h),fun _=>⟨hd,e⟩⟩
theorem yx {id:Nat} {ow:List Own} (hm:X.P.follows .mixedOrders=true) (vals:(Nat→Value)→List Dat) (OW:(Nat→Bool)→(Nat→Value)→List Own) (pre:List Nat) (ts:List Nat) (ow1:(Nat→Value)→List Own) (hok:(qd l 0 l&&dstLt n l)=true) (hpre:preL l []=pre) (hlen:∀ env,(vals env).length=l.length)
 (h0:∀ env,OW (D0 l.length) env=ow) (hops:xd X l vals OW base pre 0 l)
 {sl':(Nat→Value)→List (Nat × Dat)} (hts:∀ env,keepS l (vals env) base ts=some (sl' env)) (hw:∀ env,OW (fun _=>true) env=ow1 env) (hfin:∀ env,Q .normal ⟨sl' env,ow1 env,n⟩):T X (.region id l.toArray true) ⟨base,ow,n⟩ Q:=
 T.draw hm vals OW pre hok hpre hlen h0 hops (fun env=>⟨sl' env,keepS_lk (hts env),by rw[hw]; exact hfin env⟩)
theorem zj {i:Nat} {o:Oper} {os:List Oper} (yes:Bool) (h:∀ D env,At l pre i D→OpS X l valsE OW base pre i o yes D env) (hs:∀ D,At l pre i D→Same valsE D i) (hr:xd X l valsE OW base pre (i+1) os):xd X l valsE OW base pre i (o::os):=
 ⟨⟨yes,fun D env hA=>⟨h D env hA,hs D hA⟩⟩,hr⟩
end
def iand (k:IntKind) (x y:Int):Int:=((BitVec.ofInt k.bits x &&& BitVec.ofInt k.bits y).toNat:Int)
def ior (k:IntKind) (x y:Int):Int:=((BitVec.ofInt k.bits x ||| BitVec.ofInt k.bits y).toNat:Int)
def ixor (k:IntKind) (x y:Int):Int:=((BitVec.ofInt k.bits x ^^^ BitVec.ofInt k.bits y).toNat:Int)
def ishl (k:IntKind) (x:Int) (m:Nat):Int:=x*2 ^ (min m k.bits)
def ishr (k:IntKind) (x:Int) (m:Nat):Int:=x.fdiv (2 ^ (min m k.bits))
def quo (x:Int) (m:Nat):Int:=x.tdiv (.ofNat (m+1))
def rem (x:Int) (m:Nat):Int:=x.tmod (.ofNat (m+1))
theorem w64_u8 (b:UInt8):IntKind.i64.wrap (b.toNat:Int)=(b.toNat:Int):=by
 have:=b.toNat_lt;exact zG (x:=(b.toNat:Int)) (by omega)
theorem zS {b:Bool} (h:b=true):(!b)=false:=by rw[h]; rfl
theorem yd {b:Bool} (h:b=false):(!b)=true:=by rw[h]; rfl
section
variable {X:Prg} {sl:List (Nat × Dat)} {ow:List Own}
end
def eI (k:IntKind) (x:Int):Dat:=.val (.int k x)
def eB (x:Bool):Dat:=.val (.bool x)
def eS (x:List UInt8):Dat:=.val (.string (bs x))
end Go.Sm
