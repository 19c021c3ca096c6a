import Derived.Test.YtpmhiiemklhbhaaGreatRows
import Derived.Test.YtpmhiiemklhbhaaGreatSG
import Derived.Test.YtpmhiiemklhbhaaGreatPOS
import Derived.WalkKit
import Derived.ProofKit
import Derived.OpenShut
import Derived.ShutString
import Derived.ChangeOld
import Derived.Below
import Derived.HandedShaped
namespace Go.Proofs.YtpmhiiemklhbhaaGreat.orderSorts
open Go Go.Sm Go.ChangeShapes Go.WideShapes Go.ChangeAt Go.RowKit Go.Proofs.YtpmhiiemklhbhaaGreat.S
open Go.ChangeMaps (open_string shut_string)
set_option linter.unusedVariables false
theorem own:ownKnob Tryz.prog.godebug=none:=by kernel_rfl
theorem o9:uu Tryz.prog 9 (eS:(List UInt8)→Dat) (fun a=>a.length≤maxLen):=uu.str Tryz.underlying9 (by kernel_rfl:Tryz.prog.cellsOf 9=1)
theorem o93:uu Tryz.prog 93 ((eI .u64):Int→Dat) (fun a=>(Lit.int .u64 a).wf=true):=uu.int Tryz.underlying93 (by kernel_rfl:Tryz.prog.cellsOf 93=1)
theorem o3:uu Tryz.prog 3 ((eI .i64):Int→Dat) (fun a=>(Lit.int .i64 a).wf=true):=uu.int Tryz.underlying3 (by kernel_rfl:Tryz.prog.cellsOf 3=1)
theorem o4:uu Tryz.prog 4 (eB:Bool→Dat) (fun _=>True):=uu.bool Tryz.underlying4 (by kernel_rfl:Tryz.prog.cellsOf 4=1)
theorem o189:uu Tryz.prog 189 (zP:ref16_By→Dat) (fun a=>(fun a=>(Lit.int .i64 a).wf=true) a.fCol∧(fun _=>True) a.fDown):=by
 intro H enc w sp held n cs x h;obtain⟨xs,m,rfl,-,hl,hxs,hf⟩:=DataW.trod_struct Tryz.underlying189 h;obtain⟨b0,w0,l0,e0⟩:=uu.field hf hxs 0 rfl o3 (o:=0) (z:=1) rfl (by kernel_rfl);obtain⟨b1,w1,l1,e1⟩:=uu.field hf hxs 1 rfl o4 (o:=1) (z:=1) rfl (by kernel_rfl);have E:=(OE.chain (o:=0) e0 (by rfl) (OE.chain (o:=1) e1 (by rfl) (OE.nil0 (cs:=cs) (o:=2) (by rw[hl]; exact Nat.le_of_eq (by kernel_rfl)))));exact⟨⟨b0,b1⟩,⟨w0,w1⟩,(by kernel_rfl),E⟩
theorem o103:uu Tryz.prog 103 ((fun l=>Dat.sl 2 (List.map zP l)):(List ref16_By)→Dat) (fun l=>l.length≤maxLen∧∀ a∈l,(fun a=>(fun a=>(Lit.int .i64 a).wf=true) a.fCol∧(fun _=>True) a.fDown) a):=uu.slice o189 Tryz.underlying103 (by kernel_rfl:Tryz.prog.cellsOf 103=1) (by kernel_rfl:Tryz.prog.cellsOf 189=2)
set_option maxRecDepth 100000 in
theorem lifted (os:Os) (started:os.Started) (H:Type) (enc:TypeId × Value→H) :
 ReturnsInHanded {} Tryz.checked os 12 .any (Rows.orderSortsSpec.pre6 enc Tryz.prog Tryz.f12 Rows.orderSortsRow.domain false) (Rows.orderSortsSpec.post enc Tryz.prog Tryz.f12 false true false false):=by
 refine returnsInHanded_of_change_shaped (C:=Tryz.checked) own started (by kernel_rfl) Tryz.func12
  (ChangeSpec.witness6 (enc:=enc) (C:=Tryz.checked) false ⟨#[],#[.string ByteArray.empty,.int .u64 0,.slice none 0 0],[]⟩ 8 (by kernel_rfl) (by kernel_rfl) (by kernel_rfl) (by kernel_rfl)) ?_
 intro W base args ds gs before hval0 hW hcnd hsz0 hsh _;have hsz:(DataW.weightsEach Tryz.prog (Tryz.f12.params.toList++Rows.orderSortsSpec.plain.varTypes Tryz.prog) (ds++gs)).all (· ≤ reachBytes)=true:=hsz0;have hval:∀ (j:Nat) t v,Tryz.f12.params[j]? = some t→args[j]? = some v→Value.okWide Tryz.prog W .any base t v:=hval0;have hW':=hW;obtain⟨p,q,hA0,hV,rfl,hfz,hnd⟩:=hW;have hA:DataW.TrodAll enc Tryz.prog W 0 (fun _=>true) true Tryz.f12.params.toList args.toList ds p:=hA0;rw[Tryz.params12] at hA hval hsz;have hA2:=hA;obtain⟨v0,vs0,d0,ds0,p0,q0,hargs,rfl,rfl,h0,r0⟩:=trodAll_cons hA;obtain⟨v1,vs1,d1,ds1,p1,q1,rfl,rfl,rfl,h1,r1⟩:=trodAll_cons r0;obtain⟨v2,vs2,d2,ds2,p2,q2,rfl,rfl,rfl,h2,r2⟩:=trodAll_cons r1;obtain⟨rfl,rfl,rfl⟩:=trodAll_nil r2;obtain rfl:args = #[v0,v1,v2]:=by cases args; simp_all
 obtain⟨rfl,rfl⟩:=trodVars_none hV;obtain⟨a0,w0,g0⟩:=(o9).topStr (fun _=>rfl) Tryz.underlying9 (hval 0 9 v0 rfl rfl) h0;obtain⟨a1,w1,g1⟩:=(o93).topInt (fun _=>rfl) Tryz.underlying93 (hval 1 93 v1 rfl rfl) h1;obtain⟨a2,w2,g2⟩:=(o103).topSlice (fun _=>rfl) Tryz.underlying103 (hval 2 103 v2 rfl rfl) h2;clear hA0 hval0 hsz0 hsz;refine (zn.row (vs:=[v0,v1,v2]) (pQ (OrderSorts_holds a0 a1 a2 w0 w1 w2)) (.cons g0 (.cons g1 (.cons g2 (.nil)))) (glOk hsh)).mono fun e W' ⟨he,bel⟩=>?_;subst he;exact⟨_,rfl,_,_,_,[],_,[],hW',trodAll_mk1 (shut_bool Tryz.underlying4 _),pE (by kernel_rfl) bel (by decide +kernel) hA2,rfl,bel.frame _,fun h=>by cases h⟩
theorem over:Rows.orderSortsRow.holds Tryz.pinned (OpenSpec.ofChange Rows.orderSortsSpec):=
 OpenClaim.holds_of_wide 12 Tryz.f12 rfl rfl rfl rfl rfl rfl rfl ⟨rfl,rfl,rfl,rfl,rfl⟩ rfl rfl rfl rfl rfl (by kernel_rfl) Tryz.func12 (by kernel_rfl)
  (of_decide_eq_true (by kernel_rfl)) (by unfold Func.isWrapper; first|(rw[if_pos (by decide +kernel)]; kernel_rfl)|(rw[if_neg (by decide +kernel)]; exact⟨rfl,rfl⟩))
  (fun os started H enc _=>lifted os started H enc)
theorem proved:Rows.OrderSortsSaid:=over
end Go.Proofs.YtpmhiiemklhbhaaGreat.orderSorts
namespace Go.Proofs.YtpmhiiemklhbhaaGreat
theorem orderSorts_holds:Rows.OrderSortsSaid:=orderSorts.proved
end Go.Proofs.YtpmhiiemklhbhaaGreat
