import Derived.Test.YtpmhiiemklhbhaaGreatRows
import Derived.Test.YtpmhiiemklhbhaaGreatSG
import Derived.Test.YtpmhiiemklhbhaaGreatPOK
import Derived.WalkKit
import Derived.ProofKit
import Derived.OpenShut
import Derived.ShutString
import Derived.ChangeOld
import Derived.Below
import Derived.HandedShaped
namespace Go.Proofs.YtpmhiiemklhbhaaGreat.orderKinds
open Go Go.Sm Go.ChangeShapes Go.WideShapes Go.ChangeAt Go.RowKit Go.Proofs.YtpmhiiemklhbhaaGreat.S
open Go.ChangeMaps (open_string shut_string)
set_option linter.unusedVariables false
theorem own:ownKnob Tryz.prog.godebug=none:=by kernel_rfl
theorem o9:Opens Tryz.prog 9 (eS:(List UInt8)→Dat) (fun a=>a.length≤maxLen):=Opens.str Tryz.underlying9 (by kernel_rfl:Tryz.prog.cellsOf 9=1)
theorem o93:Opens Tryz.prog 93 ((eI .u64):Int→Dat) (fun a=>(Lit.int .u64 a).wf=true):=Opens.int Tryz.underlying93 (by kernel_rfl:Tryz.prog.cellsOf 93=1)
theorem o5:Opens Tryz.prog 5 (byteD:UInt8→Dat) (fun _=>True):=Opens.byte Tryz.underlying5 (by kernel_rfl:Tryz.prog.cellsOf 5=1)
set_option maxRecDepth 100000 in
theorem lifted (os:Os) (started:os.Started) (H:Type) (enc:TypeId × Value→H) :
 ReturnsInHanded {} Tryz.checked os 10 .any (Rows.orderKindsSpec.pre6 enc Tryz.prog Tryz.f10 Rows.orderKindsRow.domain false) (Rows.orderKindsSpec.post enc Tryz.prog Tryz.f10 false true false false):=by
 refine returnsInHanded_of_change_shaped (C:=Tryz.checked) own started (by kernel_rfl) Tryz.func10
  (ChangeSpec.witness6 (enc:=enc) (C:=Tryz.checked) false ⟨#[],#[.string ByteArray.empty,.int .u64 0,.int .u8 0],[]⟩ 8 (by kernel_rfl) (by kernel_rfl) (by kernel_rfl) (by kernel_rfl)) ?_
 intro W base args ds gs before hval0 hW hcnd hsz0 hsh _;have hsz:(DataW.weightsEach Tryz.prog (Tryz.f10.params.toList++Rows.orderKindsSpec.plain.varTypes Tryz.prog) (ds++gs)).all (· ≤ reachBytes)=true:=hsz0;have hval:∀ (j:Nat) t v,Tryz.f10.params[j]? = some t→args[j]? = some v→Value.okWide Tryz.prog W .any base t v:=hval0;have hW':=hW;obtain⟨p,q,hA0,hV,rfl,hfz,hnd⟩:=hW;have hA:DataW.TrodAll enc Tryz.prog W 0 (fun _=>true) true Tryz.f10.params.toList args.toList ds p:=hA0;rw[Tryz.params10] at hA hval hsz;have hA2:=hA;obtain⟨v0,vs0,d0,ds0,p0,q0,hargs,rfl,rfl,h0,r0⟩:=trodAll_cons hA;obtain⟨v1,vs1,d1,ds1,p1,q1,rfl,rfl,rfl,h1,r1⟩:=trodAll_cons r0;obtain⟨v2,vs2,d2,ds2,p2,q2,rfl,rfl,rfl,h2,r2⟩:=trodAll_cons r1;obtain⟨rfl,rfl,rfl⟩:=trodAll_nil r2;obtain rfl:args = #[v0,v1,v2]:=by cases args; simp_all
 obtain⟨rfl,rfl⟩:=trodVars_none hV;obtain⟨a0,w0,g0⟩:=(o9).topStr (fun _=>rfl) Tryz.underlying9 (hval 0 9 v0 rfl rfl) h0;obtain⟨a1,w1,g1⟩:=(o93).topInt (fun _=>rfl) Tryz.underlying93 (hval 1 93 v1 rfl rfl) h1;obtain⟨a2,w2,g2⟩:=(o5).topInt (fun _=>rfl) Tryz.underlying5 (hval 2 5 v2 rfl rfl) h2;clear hA0 hval0 hsz0 hsz;refine (CallF.row (vs:=[v0,v1,v2]) (law16_OrderKinds_c (OrderKinds_holds a0 a1 a2 w0 w1 w2)) (.cons g0 (.cons g1 (.cons g2 (.nil)))) (glOk hsh)).mono fun e W' ⟨he,bel⟩=>?_;subst he;exact⟨_,rfl,_,_,_,[],_,[],hW',trodAll_mk1 (shut_bool Tryz.underlying4 _),trodAll_stays (by kernel_rfl) bel (by decide +kernel) hA2,rfl,bel.frame _,fun h=>by cases h⟩
theorem over:Rows.orderKindsRow.holds Tryz.pinned (OpenSpec.ofChange Rows.orderKindsSpec):=
 OpenClaim.holds_of_wide 10 Tryz.f10 rfl rfl rfl rfl rfl rfl rfl ⟨rfl,rfl,rfl,rfl,rfl⟩ rfl rfl rfl rfl rfl (by kernel_rfl) Tryz.func10 (by kernel_rfl)
  (of_decide_eq_true (by kernel_rfl)) (by unfold Func.isWrapper; first|(rw[if_pos (by decide +kernel)]; kernel_rfl)|(rw[if_neg (by decide +kernel)]; exact⟨rfl,rfl⟩))
  (fun os started H enc _=>lifted os started H enc)
theorem proved:Rows.OrderKindsSaid:=over
end Go.Proofs.YtpmhiiemklhbhaaGreat.orderKinds
namespace Go.Proofs.YtpmhiiemklhbhaaGreat
theorem orderKinds_holds:Rows.OrderKindsSaid:=orderKinds.proved
end Go.Proofs.YtpmhiiemklhbhaaGreat
