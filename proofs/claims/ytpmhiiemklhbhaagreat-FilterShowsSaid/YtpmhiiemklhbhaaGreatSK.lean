import Derived.Test.YtpmhiiemklhbhaaGreatSJ
import Derived.Lib.AppendStr
set_option linter.unusedVariables false
namespace Go.Sm
open Go.RowKit
section
variable {X:Prg} {op:Op} {sl:List (Nat × Dat)} {ow:List Own} {d:Dat} {n:Nat} {Q:Exit→St→Prop} {w:World} {ok:Nat→Prop}
theorem aA {ops:Array Oper} {rest:List Oper} {op:Op} {ty:TypeId} {pos:String} {after:Array Edge} {t:Nat} {n:Nat} {d:Dat} (h:pureOp (lkT X.tab) op sl=some d) (ht:Nat.blt t n=true) (hk:TL X ops rest ⟨(t,d)::sl,ow,n⟩ Q) :
 TL X ops ({ dst:=some t,op:=op,type:=ty,pos:=pos,after:=after,guard:=none }::rest) ⟨sl,ow,n⟩ Q:=TL.op1 (OpR.pure h) ht hk
theorem aS {id:Nat} {l:List Oper} {y:Code} {S:St} (h:TL X l.toArray l S (Then X y Q)):T X (.seq (.region id l.toArray false) y) S Q:=T.seq (T.region h)
section
variable {l:List Oper} {vals:List Dat} {base:List (Nat × Dat)}
theorem aB {i:Nat} {o:Oper} {os:List Oper} {d:Dat} (hg:o.guard=none) (hd:(vals[i]?).getD .dead=d) (h:pureOp (lkT X.tab) o.op (knS l vals base o)=some d) (hr:OpsQ X l vals ow base (i+1) os):OpsQ X l vals ow base i (o::os):=
 OpsQ.yes (Want.plain hg) hd (OpR.pure h) hr
variable {valsE:(Nat→Value)→List Dat} {OW:(Nat→Bool)→(Nat→Value)→List Own} {pre:List Nat}
theorem aC {i:Nat} {o:Oper} {os:List Oper} (hr:OpsS X l valsE OW base pre (i+1) os) (hg:o.guard=none:=by rfl) (h:∀ env,pureOp (lkT X.tab) o.op (knS l (valsE env) base o)=some (((valsE env)[i]?).getD .dead):=by intro _; rfl)
 (hd:∀ env x,((valsE (upd env i x))[i]?).getD .dead=((valsE env)[i]?).getD .dead:=by intro _ _; rfl) (e1:∀ D env x,OW (ins i D) (upd env i x)=OW D env:=by intro _ _ _; rfl) (hs:∀ D,At l pre i D→Same valsE D i:=by exact fun _ _ _ _ _ _ _=>rfl):OpsS X l valsE OW base pre i (o::os):=
 OpsS.cons' true (fun D env _=>OpS.same (Want.plain hg) (fun x=>hd env x) (e1 D env) (OpR.pure (h env))) hs hr
end
end
abbrev dP (b:Nat):Dat:=.val (.pointer (some ⟨b,0,none⟩))
abbrev dQ:Dat:=.val (.pointer none)
abbrev dN (x:Int):Dat:=.val (.int .i64 x)
abbrev dT (b:Bool):Dat:=.val (.bool b)
abbrev lB (l:List UInt8):List Dat:=List.map byteD l
section
variable {X:Prg} {Q:Exit→St→Prop}
theorem aN {ops:Array Oper} {y:Code} {S S':St} {Q':Exit→St→Prop} (e:Q .normal S=T X y S' Q') (h:T X y S' Q'):TL X ops [] S Q:=TL.nil (e.symm▸h)
theorem aK {y:Code} {S S':St} {Q':Exit→St→Prop} (e:Q .normal S=T X y S' Q') (h:T X y S' Q'):T X .skip S Q:=T.skip (e.symm▸h)
theorem cV {S:St} {a b off:Nat} {t be:TypeId} {i:TI} {cs:List Dat} {d:Dat} {rs:List ResultVar} {ds:List Dat} (k:Nat) (hi:lkT X.tab t=some i) (ha:lk S.sl a=some (.val (.pointer (some ⟨b,off,none⟩)))) (hb:S.ow[k]? = some (.var b cs be)) (hd:dropK off cs (fun r=>partD i r)=some d) (hr:ResL X S rs ds):ResL X S (.cell a t::rs) (d::ds):=
 ResL.cons (ResV.var k hi ha hb hd) hr
theorem cT {S:St} {t:Nat} {d:Dat} {rs:List ResultVar} {ds:List Dat} (h:lk S.sl t=some d) (hr:ResL X S rs ds):ResL X S (.tmp t::rs) (d::ds):=ResL.cons (ResV.tmp h) hr
end
theorem bS {α β:Type} {x:Option α} {f:α→Option β} {r:β} (h:bnd x f=some r):∃ a,x=some a∧f a=some r:=bnd_some h
section
variable {X:Prg} {sl sl':List (Nat × Dat)} {ow ow1 o2:List Own} {n:Nat} {rs:List ResultVar} {d:Value→Dat} {ow':Value→List Own} {ds:List Dat}
theorem gP (ks ms:List Nat) (ho:only ks sl []=some sl') (hm:pickK ms ow=some ow1) (hn:nodupK ms=true):Gst ⟨sl,ow,n⟩ ⟨sl',ow1,n⟩:=Gst.trans (Gst.only ks ho) (Gst.pick ms hm hn)
theorem rP (qs ks ms:List Nat) (ho:only ks sl []=some sl') (hm:pickK ms ow=some ow1) (hmn:nodupK ms=true) (x:Value) (h:ResL X ⟨sl',ow1,n⟩ rs ds) (hp:pickK qs ow1=some o2) (hn:nodupK qs=true) (h1:pack ds=d x) (h2:o2=ow' x) :
 PostG X rs (fun r o=>∃ x,r=d x∧o=ow' x) .ret ⟨sl,ow,n⟩:=PostG.retP (gP ks ms ho hm hmn) x h hp hn h1 h2
theorem rO (qs ks:List Nat) (ho:only ks sl []=some sl') (x:Value) (h:ResL X ⟨sl',ow,n⟩ rs ds) (hp:pickK qs ow=some o2) (hn:nodupK qs=true) (h1:pack ds=d x) (h2:o2=ow' x) :
 PostG X rs (fun r o=>∃ x,r=d x∧o=ow' x) .ret ⟨sl,ow,n⟩:=PostG.retP (Gst.only ks ho) x h hp hn h1 h2
end
theorem oT {X:Prg} {l:List Oper} {base:List (Nat × Dat)} {valsE:(Nat→Value)→List Dat} {OW:(Nat→Bool)→(Nat→Value)→List Own} {pre:List Nat} {i:Nat} {o:Oper} {os:List Oper} (d:Dat) (h:∀ D env,OpR X o.op (knS l (valsE env) base o) (OW D env) (fun _=>d) (fun _=>OW D env)) (hr:OpsS X l valsE OW base pre (i+1) os)
 (hw:∀ env,Want l (knS l (valsE env) base o) o true:=by exact fun _=>Want.plain rfl) (hd:∀ env,((valsE env)[i]?).getD .dead=d:=by exact fun _=>rfl) (e1:∀ D env x,OW (ins i D) (upd env i x)=OW D env:=by exact fun _ _ _=>rfl) (hs:∀ D,At l pre i D→Same valsE D i:=by exact fun _ _ _ _ _ _ _=>rfl):OpsS X l valsE OW base pre i (o::os):=oS hw hd e1 h hs hr
theorem osi {α:Type} {a b:α} (h:some a=some b):a=b:=Option.some.inj h
theorem eT {p:Prop} [Decidable p] (h:p):decide p=true:=decide_eq_true h
theorem eF {p:Prop} [Decidable p] (h:¬p):decide p=false:=decide_eq_false h
end Go.Sm
