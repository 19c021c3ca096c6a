import Derived.Test.YtpmhiiemklhbhaaGreatG1xc
import Derived.Test.YtpmhiiemklhbhaaGreatG1xb
import Derived.Test.YtpmhiiemklhbhaaGreatG1xa
set_option maxHeartbeats 4000000
set_option linter.unusedVariables false
set_option linter.unusedSimpArgs false
set_option maxRecDepth 20000
namespace Go.Proofs.YtpmhiiemklhbhaaGreat.S
open Go Go.Sm
attribute [local irreducible] T TL OpR CallT iter loop
noncomputable def ref18_Right.l1 (a0:ref18_Test) (s3:Int):Option (Lp Int (Ex Unit Bool)):=
 if s3<(a0.fArg.length:Int) then
 bnd (bnd (idx a0.fArg s3) fun x13=>
 if (x13.toNat:Int)=10 then
 some true
else
 some ((x13.toNat:Int)==13):Option Bool) fun t12=>
 if t12=true then
 some (Lp.done (Ex.ret false))
else
 some (Lp.next (w64 (s3+1)))
else
 some (Lp.done (Ex.brk ()))
noncomputable def ref18_Right (a0:ref18_Test):Option Bool:=
 bnd (loop (ref18_Right.l1 a0) 0:Option (Ex Unit Bool)) fun t1=>match t1 with
| .brk u2=>
 bnd (if a0.fCol≥0 then
 if a0.fCol<40 then
 if a0.fOp≥0 then
 if a0.fOp<7 then
 if (a0.fArg.length:Int)≤100 then
 if a0.fOp=6 then
 some (a0.fArg==[])
else
 some true
else
 some false
else
 some false
else
 some false
else
 some false
else
 some false:Option Bool) fun t16=>
 some t16
| .ret u2=>some u2
theorem ref18_Right_c {a0:ref18_Test} {res:Bool} (h0:ref18_Right a0=some res):CallF X 35 [.agg [dN a0.fCol,dN a0.fOp,.val (.string (bs a0.fArg)),dT a0.fNot]] [] (fun x=>(dT res)) (fun x=>[]):=by
 unfold ref18_Right at h0;refine CallF.mkG (X:=X) rfl Tryz.func35 rfl rfl Tryz.ntmps35 rfl rfl ?_;refine aS ?_;refine TL.op1 (OpR.boxImm rfl rfl) rfl ?_;refine aA rfl rfl ?_;refine aN rfl ?_;refine T.seq ?_;refine aS ?_;refine aA rfl rfl ?_;refine aN rfl ?_;obtain⟨t1,ht1,h0⟩:=bS h0;refine T.cutC (fun S'=>∃ u2,t1=Ex.brk u2∧S'=⟨[(2,(dT false)),(1,.nod [dN a0.fCol,dN a0.fOp,.val (.string (bs a0.fArg)),dT a0.fNot])],[],57⟩) (fun _ h=>h) ?_ ?_
 ·refine T.block ?_;obtain⟨n4,n9⟩:=loop_some ht1;refine T.loop (fun n S'=>∃ S'',Gst S' S''∧∃ s3:Int,S''=⟨[(3,(dN s3)),(2,(dT false)),(1,.nod [dN a0.fCol,dN a0.fOp,.val (.string (bs a0.fArg)),dT a0.fNot])],[],57⟩∧iter (ref18_Right.l1 a0) n s3=some t1) n4 ?_ ?_
  ·exact⟨_,Gst.only [1,2,3] rfl,0,rfl,n9⟩
  rintro n4 _ ⟨_,g,s3,rfl,i8⟩;refine T.ghost g ?_;obtain⟨m5,q6,rfl,q7,i8⟩:=iter_succ i8;unfold ref18_Right.l1 at q7;refine T.seq ?_;refine aS ?_;iterate 3 refine aA rfl rfl ?_
  refine TL.op1 (OpR.cast (OpR.pure rfl) (intE (lenS _))) rfl ?_;refine aA rfl rfl ?_;refine aN rfl ?_;rcases ite_some q7 with ⟨c11,q7⟩|⟨c11,q7⟩;rotate_left
  ·refine T.condF rfl (eF c11) ?_;refine T.exit ?_;obtain rfl:=osi q7;obtain rfl:_=_:=i8;exact⟨_,Gst.only [1,2] rfl,_,rfl,rfl⟩
  refine T.condT rfl (eT c11) ?_;refine aK rfl ?_;refine T.seq ?_;refine T.block ?_;refine T.seq ?_;obtain⟨t12,ht12,q7⟩:=bS q7;refine T.cutC (fun S'=>S'=⟨[(22,(dT t12)),(3,(dN s3)),(2,(dT false)),(1,.nod [dN a0.fCol,dN a0.fOp,.val (.string (bs a0.fArg)),dT a0.fNot])],[],57⟩) (fun _ h=>h) ?_ ?_;rotate_left
  ·rintro _ rfl;show T X _ _ _;rcases ite_some q7 with ⟨c15,q7⟩|⟨c15,q7⟩;rotate_left
   ·refine T.condF rfl (eq_false_of_ne_true c15) ?_;refine aK rfl ?_;refine T.region ?_;iterate 3 refine aA rfl rfl ?_
    refine TL.nil ?_;obtain rfl:=osi q7;exact⟨m5,Nat.lt_succ_self _,_,Gst.only [1,2,3] rfl,w64 (s3+1),rfl,i8⟩
   refine T.condT rfl (c15) ?_;refine aS ?_;refine aA rfl rfl ?_;refine aN rfl ?_;refine T.ret ?_;obtain rfl:=osi q7;obtain rfl:_=_:=i8;obtain rfl:=osi h0;exact rO [] [2] rfl undef (cT rfl ResL.nil) rfl rfl rfl rfl
  refine T.region ?_;iterate 3 refine aA rfl rfl ?_
  obtain⟨x13,hx13,ht12⟩:=bS ht12;refine TL.op1 (OpR.indexS hx13 rfl rfl rfl rfl) rfl ?_;iterate 2 refine aA rfl rfl ?_
  rcases ite_some ht12 with ⟨c14,ht12⟩|⟨c14,ht12⟩
  ·refine TL.off rfl rfl rfl rfl (beq_iff_eq.2 c14) rfl rfl ?_;refine TL.off rfl rfl rfl rfl (beq_iff_eq.2 c14) rfl rfl ?_;refine TL.off rfl rfl rfl rfl (beq_iff_eq.2 c14) rfl rfl ?_;refine TL.off rfl rfl rfl rfl (beq_iff_eq.2 c14) rfl rfl ?_;refine TL.off rfl rfl rfl rfl (beq_iff_eq.2 c14) rfl rfl ?_;refine TL.op1 (OpR.pickT rfl (beq_iff_eq.2 c14) rfl) rfl ?_;refine TL.nil ?_;obtain rfl:=osi ht12;exact⟨_,Gst.only [1,2,3,22] rfl,rfl⟩
  refine TL.on rfl rfl rfl rfl (beq_eq_false_iff_ne.2 c14) ?_;refine aA rfl rfl ?_;refine TL.on rfl rfl rfl rfl (beq_eq_false_iff_ne.2 c14) ?_;refine aA rfl rfl ?_;refine TL.on rfl rfl rfl rfl (beq_eq_false_iff_ne.2 c14) ?_;refine aA rfl rfl ?_;refine TL.on rfl rfl rfl rfl (beq_eq_false_iff_ne.2 c14) ?_;refine TL.op1 (OpR.indexS hx13 rfl rfl rfl rfl) rfl ?_;refine TL.on rfl rfl rfl rfl (beq_eq_false_iff_ne.2 c14) ?_;refine aA rfl rfl ?_;refine TL.op1 (OpR.pickF rfl (beq_eq_false_iff_ne.2 c14) rfl) rfl ?_;refine TL.nil ?_;obtain rfl:=osi ht12;exact⟨_,Gst.only [1,2,3,22] rfl,rfl⟩
 rintro _ ⟨u2,rfl,rfl⟩;show T X _ _ _;refine T.seq ?_;obtain⟨t16,ht16,h0⟩:=bS h0;refine T.cutC (fun S'=>S'=⟨[(2,(dT t16))],[],57⟩) (fun _ h=>h) ?_ ?_;rotate_left
 ·rintro _ rfl;show T X _ _ _;refine T.ret ?_;obtain rfl:=osi h0;exact rO [] [2] rfl undef (cT rfl ResL.nil) rfl rfl rfl rfl
 refine T.region ?_;iterate 4 refine aA rfl rfl ?_
 rcases ite_some ht16 with ⟨c17,ht16⟩|⟨c17,ht16⟩;rotate_left
 ·refine TL.off rfl rfl rfl rfl (eF c17) rfl rfl ?_;refine TL.off rfl rfl rfl rfl (eF c17) rfl rfl ?_;refine TL.off rfl rfl rfl rfl (eF c17) rfl rfl ?_;refine TL.op1 (OpR.pickF rfl (eF c17) rfl) rfl ?_;refine aA rfl rfl ?_;refine TL.off rfl rfl rfl rfl rfl rfl rfl ?_;refine TL.off rfl rfl rfl rfl rfl rfl rfl ?_;refine TL.off rfl rfl rfl rfl rfl rfl rfl ?_;refine TL.op1 (OpR.pickF rfl rfl rfl) rfl ?_;refine aA rfl rfl ?_;refine TL.off rfl rfl rfl rfl rfl rfl rfl ?_;refine TL.off rfl rfl rfl rfl rfl rfl rfl ?_;refine TL.off rfl rfl rfl rfl rfl rfl rfl ?_;refine TL.op1 (OpR.pickF rfl rfl rfl) rfl ?_;refine aA rfl rfl ?_;refine TL.off rfl rfl rfl rfl rfl rfl rfl ?_;refine TL.off rfl rfl rfl rfl rfl rfl rfl ?_;refine TL.off rfl rfl rfl rfl rfl rfl rfl ?_;refine TL.off rfl rfl rfl rfl rfl rfl rfl ?_;refine TL.op1 (OpR.pickF rfl rfl rfl) rfl ?_;refine aA rfl rfl ?_;refine TL.off rfl rfl rfl rfl rfl rfl rfl ?_;refine TL.off rfl rfl rfl rfl rfl rfl rfl ?_;refine TL.off rfl rfl rfl rfl rfl rfl rfl ?_;refine TL.off rfl rfl rfl rfl rfl rfl rfl ?_;refine TL.offU rfl rfl rfl rfl rfl rfl ?_;refine TL.offU rfl rfl rfl rfl rfl rfl ?_;refine TL.offU rfl rfl rfl rfl rfl rfl ?_;refine TL.off rfl rfl rfl rfl rfl rfl rfl ?_;refine TL.op1 (OpR.pickF rfl rfl rfl) rfl ?_;refine aA rfl rfl ?_;refine TL.nil ?_;obtain rfl:=osi ht16;exact⟨_,Gst.only [2] rfl,rfl⟩
 refine TL.on rfl rfl rfl rfl (eT c17) ?_;refine aA rfl rfl ?_;refine TL.on rfl rfl rfl rfl (eT c17) ?_;refine aA rfl rfl ?_;refine TL.on rfl rfl rfl rfl (eT c17) ?_;refine aA rfl rfl ?_;refine TL.op1 (OpR.pickT rfl (eT c17) rfl) rfl ?_;refine aA rfl rfl ?_;rcases ite_some ht16 with ⟨c18,ht16⟩|⟨c18,ht16⟩;rotate_left
 ·refine TL.off rfl rfl rfl rfl (eF c18) rfl rfl ?_;refine TL.off rfl rfl rfl rfl (eF c18) rfl rfl ?_;refine TL.off rfl rfl rfl rfl (eF c18) rfl rfl ?_;refine TL.op1 (OpR.pickF rfl (eF c18) rfl) rfl ?_;refine aA rfl rfl ?_;refine TL.off rfl rfl rfl rfl rfl rfl rfl ?_;refine TL.off rfl rfl rfl rfl rfl rfl rfl ?_;refine TL.off rfl rfl rfl rfl rfl rfl rfl ?_;refine TL.op1 (OpR.pickF rfl rfl rfl) rfl ?_;refine aA rfl rfl ?_;refine TL.off rfl rfl rfl rfl rfl rfl rfl ?_;refine TL.off rfl rfl rfl rfl rfl rfl rfl ?_;refine TL.off rfl rfl rfl rfl rfl rfl rfl ?_;refine TL.off rfl rfl rfl rfl rfl rfl rfl ?_;refine TL.op1 (OpR.pickF rfl rfl rfl) rfl ?_;refine aA rfl rfl ?_;refine TL.off rfl rfl rfl rfl rfl rfl rfl ?_;refine TL.off rfl rfl rfl rfl rfl rfl rfl ?_;refine TL.off rfl rfl rfl rfl rfl rfl rfl ?_;refine TL.off rfl rfl rfl rfl rfl rfl rfl ?_;refine TL.offU rfl rfl rfl rfl rfl rfl ?_;refine TL.offU rfl rfl rfl rfl rfl rfl ?_;refine TL.offU rfl rfl rfl rfl rfl rfl ?_;refine TL.off rfl rfl rfl rfl rfl rfl rfl ?_;refine TL.op1 (OpR.pickF rfl rfl rfl) rfl ?_;refine aA rfl rfl ?_;refine TL.nil ?_;obtain rfl:=osi ht16;exact⟨_,Gst.only [2] rfl,rfl⟩
 refine TL.on rfl rfl rfl rfl (eT c18) ?_;refine aA rfl rfl ?_;refine TL.on rfl rfl rfl rfl (eT c18) ?_;refine aA rfl rfl ?_;refine TL.on rfl rfl rfl rfl (eT c18) ?_;refine aA rfl rfl ?_;refine TL.op1 (OpR.pickT rfl (eT c18) rfl) rfl ?_;refine aA rfl rfl ?_;rcases ite_some ht16 with ⟨c19,ht16⟩|⟨c19,ht16⟩;rotate_left
 ·refine TL.off rfl rfl rfl rfl (eF c19) rfl rfl ?_;refine TL.off rfl rfl rfl rfl (eF c19) rfl rfl ?_;refine TL.off rfl rfl rfl rfl (eF c19) rfl rfl ?_;refine TL.op1 (OpR.pickF rfl (eF c19) rfl) rfl ?_;refine aA rfl rfl ?_;refine TL.off rfl rfl rfl rfl rfl rfl rfl ?_;refine TL.off rfl rfl rfl rfl rfl rfl rfl ?_;refine TL.off rfl rfl rfl rfl rfl rfl rfl ?_;refine TL.off rfl rfl rfl rfl rfl rfl rfl ?_;refine TL.op1 (OpR.pickF rfl rfl rfl) rfl ?_;refine aA rfl rfl ?_;refine TL.off rfl rfl rfl rfl rfl rfl rfl ?_;refine TL.off rfl rfl rfl rfl rfl rfl rfl ?_;refine TL.off rfl rfl rfl rfl rfl rfl rfl ?_;refine TL.off rfl rfl rfl rfl rfl rfl rfl ?_;refine TL.offU rfl rfl rfl rfl rfl rfl ?_;refine TL.offU rfl rfl rfl rfl rfl rfl ?_;refine TL.offU rfl rfl rfl rfl rfl rfl ?_;refine TL.off rfl rfl rfl rfl rfl rfl rfl ?_;refine TL.op1 (OpR.pickF rfl rfl rfl) rfl ?_;refine aA rfl rfl ?_;refine TL.nil ?_;obtain rfl:=osi ht16;exact⟨_,Gst.only [2] rfl,rfl⟩
 refine TL.on rfl rfl rfl rfl (eT c19) ?_;refine aA rfl rfl ?_;refine TL.on rfl rfl rfl rfl (eT c19) ?_;refine aA rfl rfl ?_;refine TL.on rfl rfl rfl rfl (eT c19) ?_;refine aA rfl rfl ?_;refine TL.op1 (OpR.pickT rfl (eT c19) rfl) rfl ?_;refine aA rfl rfl ?_;rcases ite_some ht16 with ⟨c20,ht16⟩|⟨c20,ht16⟩;rotate_left
 ·refine TL.off rfl rfl rfl rfl (eF c20) rfl rfl ?_;refine TL.off rfl rfl rfl rfl (eF c20) rfl rfl ?_;refine TL.off rfl rfl rfl rfl (eF c20) rfl rfl ?_;refine TL.off rfl rfl rfl rfl (eF c20) rfl rfl ?_;refine TL.op1 (OpR.pickF rfl (eF c20) rfl) rfl ?_;refine aA rfl rfl ?_;refine TL.off rfl rfl rfl rfl rfl rfl rfl ?_;refine TL.off rfl rfl rfl rfl rfl rfl rfl ?_;refine TL.off rfl rfl rfl rfl rfl rfl rfl ?_;refine TL.off rfl rfl rfl rfl rfl rfl rfl ?_;refine TL.offU rfl rfl rfl rfl rfl rfl ?_;refine TL.offU rfl rfl rfl rfl rfl rfl ?_;refine TL.offU rfl rfl rfl rfl rfl rfl ?_;refine TL.off rfl rfl rfl rfl rfl rfl rfl ?_;refine TL.op1 (OpR.pickF rfl rfl rfl) rfl ?_;refine aA rfl rfl ?_;refine TL.nil ?_;obtain rfl:=osi ht16;exact⟨_,Gst.only [2] rfl,rfl⟩
 refine TL.on rfl rfl rfl rfl (eT c20) ?_;refine aA rfl rfl ?_;refine TL.on rfl rfl rfl rfl (eT c20) ?_;refine aA rfl rfl ?_;refine TL.on rfl rfl rfl rfl (eT c20) ?_;refine TL.op1 (OpR.cast (OpR.pure rfl) (intE (lenS _))) rfl ?_;refine TL.on rfl rfl rfl rfl (eT c20) ?_;refine aA rfl rfl ?_;refine TL.op1 (OpR.pickT rfl (eT c20) rfl) rfl ?_;refine aA rfl rfl ?_;rcases ite_some ht16 with ⟨c21,ht16⟩|⟨c21,ht16⟩;rotate_left
 ·refine TL.off rfl rfl rfl rfl (eF c21) rfl rfl ?_;refine TL.off rfl rfl rfl rfl (eF c21) rfl rfl ?_;refine TL.off rfl rfl rfl rfl (eF c21) rfl rfl ?_;refine TL.off rfl rfl rfl rfl (eF c21) rfl rfl ?_;refine TL.offU rfl rfl rfl rfl rfl rfl ?_;refine TL.offU rfl rfl rfl rfl rfl rfl ?_;refine TL.offU rfl rfl rfl rfl rfl rfl ?_;refine TL.off rfl rfl rfl rfl (eF c21) rfl rfl ?_;refine TL.op1 (OpR.pickF rfl (eF c21) rfl) rfl ?_;refine aA rfl rfl ?_;refine TL.nil ?_;obtain rfl:=osi ht16;exact⟨_,Gst.only [2] rfl,rfl⟩
 refine TL.on rfl rfl rfl rfl (eT c21) ?_;refine aA rfl rfl ?_;refine TL.on rfl rfl rfl rfl (eT c21) ?_;refine aA rfl rfl ?_;refine TL.on rfl rfl rfl rfl (eT c21) ?_;refine aA rfl rfl ?_;refine TL.on rfl rfl rfl rfl (eT c21) ?_;refine aA rfl rfl ?_;rcases ite_some ht16 with ⟨c22,ht16⟩|⟨c22,ht16⟩;rotate_left
 ·refine TL.off rfl rfl rfl rfl (not_f (beq_eq_false_iff_ne.2 c22)) rfl rfl ?_;refine TL.off rfl rfl rfl rfl (not_f (beq_eq_false_iff_ne.2 c22)) rfl rfl ?_;refine TL.off rfl rfl rfl rfl (not_f (beq_eq_false_iff_ne.2 c22)) rfl rfl ?_;refine TL.on rfl rfl rfl rfl (eT c21) ?_;refine TL.op1 (OpR.pickT rfl (not_f (beq_eq_false_iff_ne.2 c22)) rfl) rfl ?_;refine TL.op1 (OpR.pickT rfl (eT c21) rfl) rfl ?_;refine aA rfl rfl ?_;refine TL.nil ?_;obtain rfl:=osi ht16;exact⟨_,Gst.only [2] rfl,rfl⟩
 refine TL.on rfl rfl rfl rfl (not_t (beq_iff_eq.2 c22)) ?_;refine aA rfl rfl ?_;refine TL.on rfl rfl rfl rfl (not_t (beq_iff_eq.2 c22)) ?_;refine aA rfl rfl ?_;refine TL.on rfl rfl rfl rfl (not_t (beq_iff_eq.2 c22)) ?_;refine TL.op1 (OpR.cast (OpR.pure rfl) (boolE (strEq _ _))) rfl ?_;refine TL.on rfl rfl rfl rfl (eT c21) ?_;refine TL.op1 (OpR.pickF rfl (not_t (beq_iff_eq.2 c22)) rfl) rfl ?_;refine TL.op1 (OpR.pickT rfl (eT c21) rfl) rfl ?_;refine aA rfl rfl ?_;refine TL.nil ?_;obtain rfl:=osi ht16;exact⟨_,Gst.only [2] rfl,rfl⟩
noncomputable def ref17_at (a0:List UInt8) (a1:List UInt8) (a2:Int):Option Bool:=
 bnd (if a1=[] then
 some false
else
 if a2≥0 then
 if (w64 (a2+(a1.length:Int)))≤(a0.length:Int) then
 bnd (cut a0 a2 (w64 (a2+(a1.length:Int)))) fun x5=>
 some (x5==a1)
else
 some false
else
 some false:Option Bool) fun t1=>
 some t1
theorem ref17_at_c {a0:List UInt8} {a1:List UInt8} {a2:Int} {res:Bool} (h0:ref17_at a0 a1 a2=some res):CallF X 221 [.val (.string (bs a0)),.val (.string (bs a1)),dN a2] [] (fun x=>(dT res)) (fun x=>[]):=by
 unfold ref17_at at h0;refine CallF.mkG (X:=X) rfl Tryz.func221 rfl rfl Tryz.ntmps221 rfl rfl ?_;refine aS ?_;refine aA rfl rfl ?_;refine aN rfl ?_;refine T.seq ?_;obtain⟨t1,ht1,h0⟩:=bS h0;refine T.cutC (fun S'=>S'=⟨[(6,(dT t1))],[],33⟩) (fun _ h=>h) ?_ ?_;rotate_left
 ·rintro _ rfl;show T X _ _ _;refine T.ret ?_;obtain rfl:=osi h0;exact rO [] [6] rfl undef (cT rfl ResL.nil) rfl rfl rfl rfl
 refine T.region ?_;refine aA rfl rfl ?_;refine TL.op1 (OpR.cast (OpR.pure rfl) (boolE (strNe _ _))) rfl ?_;refine aA rfl rfl ?_;rcases ite_some ht1 with ⟨c2,ht1⟩|⟨c2,ht1⟩
 ·refine TL.off rfl rfl rfl rfl (not_t (beq_iff_eq.2 c2)) rfl rfl ?_;refine TL.off rfl rfl rfl rfl (not_t (beq_iff_eq.2 c2)) rfl rfl ?_;refine TL.op1 (OpR.pickF rfl (not_t (beq_iff_eq.2 c2)) rfl) rfl ?_;refine aA rfl rfl ?_;refine TL.off rfl rfl rfl rfl rfl rfl rfl ?_;refine TL.off rfl rfl rfl rfl rfl rfl rfl ?_;refine TL.off rfl rfl rfl rfl rfl rfl rfl ?_;refine TL.off rfl rfl rfl rfl rfl rfl rfl ?_;refine TL.off rfl rfl rfl rfl rfl rfl rfl ?_;refine TL.off rfl rfl rfl rfl rfl rfl rfl ?_;refine TL.off rfl rfl rfl rfl rfl rfl rfl ?_;refine TL.op1 (OpR.pickF rfl rfl rfl) rfl ?_;refine aA rfl rfl ?_;refine TL.off rfl rfl rfl rfl rfl rfl rfl ?_;refine TL.off rfl rfl rfl rfl rfl rfl rfl ?_;refine TL.off rfl rfl rfl rfl rfl rfl rfl ?_;refine TL.off rfl rfl rfl rfl rfl rfl rfl ?_;refine TL.off rfl rfl rfl rfl rfl rfl rfl ?_;refine TL.off rfl rfl rfl rfl rfl rfl rfl ?_;refine TL.off rfl rfl rfl rfl rfl rfl rfl ?_;refine TL.off rfl rfl rfl rfl rfl rfl rfl ?_;refine TL.off rfl rfl rfl rfl rfl rfl rfl ?_;refine TL.op1 (OpR.pickF rfl rfl rfl) rfl ?_;refine aA rfl rfl ?_;refine TL.nil ?_;obtain rfl:=osi ht1;exact⟨_,Gst.only [6] rfl,rfl⟩
 refine TL.on rfl rfl rfl rfl (not_f (beq_eq_false_iff_ne.2 c2)) ?_;refine aA rfl rfl ?_;refine TL.on rfl rfl rfl rfl (not_f (beq_eq_false_iff_ne.2 c2)) ?_;refine aA rfl rfl ?_;refine TL.op1 (OpR.pickT rfl (not_f (beq_eq_false_iff_ne.2 c2)) rfl) rfl ?_;refine aA rfl rfl ?_;rcases ite_some ht1 with ⟨c3,ht1⟩|⟨c3,ht1⟩;rotate_left
 ·refine TL.off rfl rfl rfl rfl (eF c3) rfl rfl ?_;refine TL.off rfl rfl rfl rfl (eF c3) rfl rfl ?_;refine TL.off rfl rfl rfl rfl (eF c3) rfl rfl ?_;refine TL.off rfl rfl rfl rfl (eF c3) rfl rfl ?_;refine TL.off rfl rfl rfl rfl (eF c3) rfl rfl ?_;refine TL.off rfl rfl rfl rfl (eF c3) rfl rfl ?_;refine TL.off rfl rfl rfl rfl (eF c3) rfl rfl ?_;refine TL.op1 (OpR.pickF rfl (eF c3) rfl) rfl ?_;refine aA rfl rfl ?_;refine TL.off rfl rfl rfl rfl rfl rfl rfl ?_;refine TL.off rfl rfl rfl rfl rfl rfl rfl ?_;refine TL.off rfl rfl rfl rfl rfl rfl rfl ?_;refine TL.off rfl rfl rfl rfl rfl rfl rfl ?_;refine TL.off rfl rfl rfl rfl rfl rfl rfl ?_;refine TL.off rfl rfl rfl rfl rfl rfl rfl ?_;refine TL.off rfl rfl rfl rfl rfl rfl rfl ?_;refine TL.off rfl rfl rfl rfl rfl rfl rfl ?_;refine TL.off rfl rfl rfl rfl rfl rfl rfl ?_;refine TL.op1 (OpR.pickF rfl rfl rfl) rfl ?_;refine aA rfl rfl ?_;refine TL.nil ?_;obtain rfl:=osi ht1;exact⟨_,Gst.only [6] rfl,rfl⟩
 refine TL.on rfl rfl rfl rfl (eT c3) ?_;refine aA rfl rfl ?_;refine TL.on rfl rfl rfl rfl (eT c3) ?_;refine aA rfl rfl ?_;refine TL.on rfl rfl rfl rfl (eT c3) ?_;refine TL.op1 (OpR.cast (OpR.pure rfl) (intE (lenS _))) rfl ?_;refine TL.on rfl rfl rfl rfl (eT c3) ?_;refine aA rfl rfl ?_;refine TL.on rfl rfl rfl rfl (eT c3) ?_;refine aA rfl rfl ?_;refine TL.on rfl rfl rfl rfl (eT c3) ?_;refine TL.op1 (OpR.cast (OpR.pure rfl) (intE (lenS _))) rfl ?_;refine TL.on rfl rfl rfl rfl (eT c3) ?_;refine aA rfl rfl ?_;refine TL.op1 (OpR.pickT rfl (eT c3) rfl) rfl ?_;refine aA rfl rfl ?_;rcases ite_some ht1 with ⟨c4,ht1⟩|⟨c4,ht1⟩;rotate_left
 ·refine TL.off rfl rfl rfl rfl (eF c4) rfl rfl ?_;refine TL.off rfl rfl rfl rfl (eF c4) rfl rfl ?_;refine TL.off rfl rfl rfl rfl (eF c4) rfl rfl ?_;refine TL.off rfl rfl rfl rfl (eF c4) rfl rfl ?_;refine TL.off rfl rfl rfl rfl (eF c4) rfl rfl ?_;refine TL.off rfl rfl rfl rfl (eF c4) rfl rfl ?_;refine TL.off rfl rfl rfl rfl (eF c4) rfl rfl ?_;refine TL.off rfl rfl rfl rfl (eF c4) rfl rfl ?_;refine TL.off rfl rfl rfl rfl (eF c4) rfl rfl ?_;refine TL.op1 (OpR.pickF rfl (eF c4) rfl) rfl ?_;refine aA rfl rfl ?_;refine TL.nil ?_;obtain rfl:=osi ht1;exact⟨_,Gst.only [6] rfl,rfl⟩
 refine TL.on rfl rfl rfl rfl (eT c4) ?_;refine aA rfl rfl ?_;refine TL.on rfl rfl rfl rfl (eT c4) ?_;refine aA rfl rfl ?_;refine TL.on rfl rfl rfl rfl (eT c4) ?_;refine aA rfl rfl ?_;refine TL.on rfl rfl rfl rfl (eT c4) ?_;refine aA rfl rfl ?_;refine TL.on rfl rfl rfl rfl (eT c4) ?_;refine TL.op1 (OpR.cast (OpR.pure rfl) (intE (lenS _))) rfl ?_;refine TL.on rfl rfl rfl rfl (eT c4) ?_;refine aA rfl rfl ?_;refine TL.on rfl rfl rfl rfl (eT c4) ?_;obtain⟨x5,hx5,ht1⟩:=bS ht1;refine TL.op1 (OpR.sliceS hx5 rfl rfl rfl (BdM.some rfl) (BdM.some rfl)) rfl ?_;refine TL.on rfl rfl rfl rfl (eT c4) ?_;refine aA rfl rfl ?_;refine TL.on rfl rfl rfl rfl (eT c4) ?_;refine TL.op1 (OpR.cast (OpR.pure rfl) (boolE (strEq _ _))) rfl ?_;refine TL.op1 (OpR.pickT rfl (eT c4) rfl) rfl ?_;refine aA rfl rfl ?_;refine TL.nil ?_;obtain rfl:=osi ht1;exact⟨_,Gst.only [6] rfl,rfl⟩
noncomputable def ref17_Every.l1 (a0:List UInt8) (a1:List UInt8) (s4:Int × (List Int)):Option (Lp (Int × (List Int)) (List Int)):=
 if s4.1<(a0.length:Int) then
 bnd (ref17_at a0 a1 s4.1) fun x13=>
 bnd (if x13=true then
 bnd (app 8 s4.2 [s4.1]) fun x17=>
 some x17
else
 some s4.2:Option (List Int)) fun t14=>
 some (Lp.next (w64 (s4.1+1),t14))
else
 some (Lp.done s4.2)
noncomputable def ref17_Every (a0:List UInt8) (a1:List UInt8):Option (List Int):=
 bnd (loop (ref17_Every.l1 a0 a1) (0,[]):Option (List Int)) fun t1=>
 some t1
theorem ref17_Every_c {a0:List UInt8} {a1:List UInt8} {res:(List Int)} (h0:ref17_Every a0 a1=some res):CallF X 184 [.val (.string (bs a0)),.val (.string (bs a1))] [] (fun x=>.sl 1 (List.map (eI .i64) res)) (fun x=>[]):=by
 unfold ref17_Every at h0;refine CallF.mkG (X:=X) rfl Tryz.func184 rfl rfl Tryz.ntmps184 rfl rfl ?_;refine aS ?_;refine aA rfl rfl ?_;refine aN rfl ?_;refine aS ?_;refine aA rfl rfl ?_;refine aN rfl ?_;refine T.seq ?_;refine aS ?_;refine aA rfl rfl ?_;refine TL.op1 (OpR.cast (OpR.pure rfl) (intE (lenS _))) rfl ?_;refine aA rfl rfl ?_;refine aN rfl ?_;obtain⟨t1,ht1,h0⟩:=bS h0;refine T.cutC (fun S'=>∃ y2:Value,S'=⟨[(5,.val y2),(4,.val (.slice none 0 0))],[.row y2 (List.map (eI .i64) t1) 1 3],22⟩) (fun _ h=>h) ?_ ?_;rotate_left
 ·rintro _ ⟨y2,rfl⟩;show T X _ _ _;refine aS ?_;iterate 2 refine aA rfl rfl ?_
  refine aN rfl ?_;refine T.ret ?_;obtain rfl:=osi h0;exact PostG.retP (ks:=[]) (Gst.trans (Gst.only [4] rfl) (Gst.trans (Gst.freezeRow 0 rfl rfl (ReS.cons (Re.base .all) ReS.nil) (ReO.same ReO.nil)) (Gst.pick [] rfl rfl))) undef (cT rfl ResL.nil) rfl rfl rfl rfl
 refine T.block ?_;obtain⟨n5,n10⟩:=loop_some ht1;refine T.loop (fun n S'=>∃ S'',Gst S' S''∧∃ y3:Value,∃ s4:Int × (List Int),S''=⟨[(9,(dN s4.1)),(8,(dN (a0.length:Int))),(5,.val y3),(4,.val (.slice none 0 0)),(1,.val (.string (bs a1))),(0,.val (.string (bs a0)))],[.row y3 (List.map (eI .i64) s4.2) 1 3],22⟩∧iter (ref17_Every.l1 a0 a1) n s4=some t1) n5 ?_ ?_
 ·exact⟨_,Gst.trans (Gst.only [0,1,4,5,8,9] rfl) (Gst.nilRow (ow:=[]) 1 3 rfl),(.slice none 0 0),(0,[]),rfl,n10⟩
 rintro n5 _ ⟨_,g,y3,s4,rfl,i9⟩;refine T.ghost g ?_;obtain⟨m6,q7,rfl,q8,i9⟩:=iter_succ i9;unfold ref17_Every.l1 at q8;refine aS ?_;refine aA rfl rfl ?_;refine aN rfl ?_;refine T.seq ?_;rcases ite_some q8 with ⟨c12,q8⟩|⟨c12,q8⟩;rotate_left
 ·refine T.condF rfl (eF c12) ?_;refine T.exit ?_;obtain rfl:=osi q8;obtain rfl:_=_:=i9;exact⟨_,Gst.only [4,5] rfl,y3,rfl⟩
 refine T.condT rfl (eT c12) ?_;refine aK rfl ?_;refine T.seq ?_;refine T.block ?_;refine aS ?_;iterate 2 refine aA rfl rfl ?_
 refine aN rfl ?_;refine aS ?_;iterate 3 refine aA rfl rfl ?_
 obtain⟨x13,hx13,q8⟩:=bS q8;refine TL.op1 (OpR.call0 fn221 (ref17_at_c hx13) rfl) rfl ?_;refine aN rfl ?_;obtain⟨t14,ht14,q8⟩:=bS q8;refine T.cutC (fun S'=>∃ y15:Value,S'=⟨[(9,(dN s4.1)),(8,(dN (a0.length:Int))),(5,.val y15),(4,.val (.slice none 0 0)),(1,.val (.string (bs a1))),(0,.val (.string (bs a0)))],[.row y15 (List.map (eI .i64) t14) 1 3],22⟩) (fun _ h=>h) ?_ ?_;rotate_left
 ·rintro _ ⟨y15,rfl⟩;show T X _ _ _;refine T.region ?_;iterate 2 refine aA rfl rfl ?_
  refine TL.nil ?_;obtain rfl:=osi q8;exact⟨m6,Nat.lt_succ_self _,_,Gst.only [0,1,4,5,8,9] rfl,y15,(w64 (s4.1+1),t14),rfl,i9⟩
 rcases ite_some ht14 with ⟨c16,ht14⟩|⟨c16,ht14⟩;rotate_left
 ·refine T.condF rfl (eq_false_of_ne_true c16) ?_;refine T.skip ?_;obtain rfl:=osi ht14;exact⟨_,Gst.only [0,1,4,5,8,9] rfl,y3,rfl⟩
 refine T.condT rfl (c16) ?_;refine T.region ?_;iterate 2 refine aA rfl rfl ?_
 refine TL.op1 (OpR.lit rfl rfl rfl rfl rfl rfl rfl) rfl ?_;obtain⟨x17,hx17,ht14⟩:=bS ht14;refine TL.op (OpR.appendM (m:=[s4.1]) (eI .i64) 0 hx17 rfl rfl rfl rfl rfl rfl rfl rfl rfl (fun _=>rfl)) rfl (fun v18=>?_);refine aA rfl rfl ?_;refine TL.nil ?_;obtain rfl:=osi ht14;exact⟨_,Gst.only [0,1,4,5,8,9] rfl,v18,rfl⟩
noncomputable def ref02_Digit (a0:UInt8):Option Bool:=
 bnd (if (a0.toNat:Int)≥48 then
 some (decide ((a0.toNat:Int)≤57))
else
 some false:Option Bool) fun t1=>
 some t1
theorem ref02_Digit_c {a0:UInt8} {res:Bool} (h0:ref02_Digit a0=some res):CallF X 217 [.val (.int .u8 (a0.toNat:Int))] [] (fun x=>(dT res)) (fun x=>[]):=by
 unfold ref02_Digit at h0;refine CallF.mkG (X:=X) rfl Tryz.func217 rfl rfl Tryz.ntmps217 rfl rfl ?_;refine aS ?_;refine aA rfl rfl ?_;refine aN rfl ?_;refine T.seq ?_;obtain⟨t1,ht1,h0⟩:=bS h0;refine T.cutC (fun S'=>S'=⟨[(2,(dT t1))],[],9⟩) (fun _ h=>h) ?_ ?_;rotate_left
 ·rintro _ rfl;show T X _ _ _;refine T.ret ?_;obtain rfl:=osi h0;exact rO [] [2] rfl undef (cT rfl ResL.nil) rfl rfl rfl rfl
 refine T.region ?_;iterate 3 refine aA rfl rfl ?_
 rcases ite_some ht1 with ⟨c2,ht1⟩|⟨c2,ht1⟩;rotate_left
 ·refine TL.off rfl rfl rfl rfl (eF c2) rfl rfl ?_;refine TL.off rfl rfl rfl rfl (eF c2) rfl rfl ?_;refine TL.op1 (OpR.pickF rfl (eF c2) rfl) rfl ?_;refine aA rfl rfl ?_;refine TL.nil ?_;obtain rfl:=osi ht1;exact⟨_,Gst.only [2] rfl,rfl⟩
 refine TL.on rfl rfl rfl rfl (eT c2) ?_;refine aA rfl rfl ?_;refine TL.on rfl rfl rfl rfl (eT c2) ?_;refine aA rfl rfl ?_;refine TL.op1 (OpR.pickT rfl (eT c2) rfl) rfl ?_;refine aA rfl rfl ?_;refine TL.nil ?_;obtain rfl:=osi ht1;exact⟨_,Gst.only [2] rfl,rfl⟩
noncomputable def ref02_bare.l1 (s2:(List UInt8)):Option (Lp (List UInt8) (List UInt8)):=
 bnd (if (s2.length:Int)>1 then
 bnd (idx s2 0) fun x12=>
 some ((x12.toNat:Int)==48)
else
 some false:Option Bool) fun t10=>
 if t10=true then
 bnd (cut s2 1 (s2.length:Int)) fun x14=>
 some (Lp.next x14)
else
 some (Lp.done s2)
noncomputable def ref02_bare (a0:List UInt8):Option (List UInt8):=
 bnd (loop ref02_bare.l1 a0:Option (List UInt8)) fun t1=>
 some t1
theorem ref02_bare_c {a0:List UInt8} {res:(List UInt8)} (h0:ref02_bare a0=some res):CallF X 218 [.val (.string (bs a0))] [] (fun x=>.val (.string (bs res))) (fun x=>[]):=by
 unfold ref02_bare at h0;refine CallF.mkG (X:=X) rfl Tryz.func218 rfl rfl Tryz.ntmps218 rfl rfl ?_;refine aS ?_;refine aA rfl rfl ?_;refine aN rfl ?_;refine T.seq ?_;obtain⟨t1,ht1,h0⟩:=bS h0;refine T.cutC (fun S'=>S'=⟨[(2,.val (.string (bs []))),(0,.val (.string (bs t1)))],[],14⟩) (fun _ h=>h) ?_ ?_;rotate_left
 ·rintro _ rfl;show T X _ _ _;refine aS ?_;iterate 2 refine aA rfl rfl ?_
  refine aN rfl ?_;refine T.ret ?_;obtain rfl:=osi h0;exact rO [] [2] rfl undef (cT rfl ResL.nil) rfl rfl rfl rfl
 refine T.block ?_;obtain⟨n3,n8⟩:=loop_some ht1;refine T.loop (fun n S'=>∃ S'',Gst S' S''∧∃ s2:(List UInt8),S''=⟨[(2,.val (.string (bs []))),(0,.val (.string (bs s2)))],[],14⟩∧iter ref02_bare.l1 n s2=some t1) n3 ?_ ?_
 ·exact⟨_,Gst.only [0,2] rfl,a0,rfl,n8⟩
 rintro n3 _ ⟨_,g,s2,rfl,i7⟩;refine T.ghost g ?_;obtain⟨m4,q5,rfl,q6,i7⟩:=iter_succ i7;unfold ref02_bare.l1 at q6;refine T.seq ?_;refine T.seq ?_;obtain⟨t10,ht10,q6⟩:=bS q6;refine T.cutC (fun S'=>S'=⟨[(10,(dT t10)),(2,.val (.string (bs []))),(0,.val (.string (bs s2)))],[],14⟩) (fun _ h=>h) ?_ ?_;rotate_left
 ·rintro _ rfl;show T X _ _ _;rcases ite_some q6 with ⟨c13,q6⟩|⟨c13,q6⟩;rotate_left
  ·refine T.condF rfl (eq_false_of_ne_true c13) ?_;refine T.exit ?_;obtain rfl:=osi q6;obtain rfl:_=_:=i7;exact⟨_,Gst.only [0,2] rfl,rfl⟩
  refine T.condT rfl (c13) ?_;refine aK rfl ?_;refine T.block ?_;refine T.region ?_;refine aA rfl rfl ?_;obtain⟨x14,hx14,q6⟩:=bS q6;refine TL.op1 (OpR.sliceS hx14 rfl rfl rfl (BdM.some rfl) BdM.none) rfl ?_;refine aA rfl rfl ?_;refine TL.nil ?_;obtain rfl:=osi q6;exact⟨m4,Nat.lt_succ_self _,_,Gst.only [0,2] rfl,x14,rfl,i7⟩
 refine T.region ?_;refine aA rfl rfl ?_;refine TL.op1 (OpR.cast (OpR.pure rfl) (intE (lenS _))) rfl ?_;iterate 2 refine aA rfl rfl ?_
 rcases ite_some ht10 with ⟨c11,ht10⟩|⟨c11,ht10⟩;rotate_left
 ·refine TL.off rfl rfl rfl rfl (eF c11) rfl rfl ?_;refine TL.off rfl rfl rfl rfl (eF c11) rfl rfl ?_;refine TL.off rfl rfl rfl rfl (eF c11) rfl rfl ?_;refine TL.op1 (OpR.pickF rfl (eF c11) rfl) rfl ?_;refine TL.nil ?_;obtain rfl:=osi ht10;exact⟨_,Gst.only [0,2,10] rfl,rfl⟩
 refine TL.on rfl rfl rfl rfl (eT c11) ?_;refine aA rfl rfl ?_;refine TL.on rfl rfl rfl rfl (eT c11) ?_;obtain⟨x12,hx12,ht10⟩:=bS ht10;refine TL.op1 (OpR.indexS hx12 rfl rfl rfl rfl) rfl ?_;refine TL.on rfl rfl rfl rfl (eT c11) ?_;refine aA rfl rfl ?_;refine TL.op1 (OpR.pickT rfl (eT c11) rfl) rfl ?_;refine TL.nil ?_;obtain rfl:=osi ht10;exact⟨_,Gst.only [0,2,10] rfl,rfl⟩
noncomputable def ref02_less (a0:List UInt8) (a1:List UInt8):Option Bool:=
 bnd (if (a0.length:Int)<(a1.length:Int) then
 some true
else
 if (a0.length:Int)=(a1.length:Int) then
 some (Op.bytesLess a0 a1)
else
 some false:Option Bool) fun t1=>
 some t1
theorem ref02_less_c {a0:List UInt8} {a1:List UInt8} {res:Bool} (h0:ref02_less a0 a1=some res):CallF X 219 [.val (.string (bs a0)),.val (.string (bs a1))] [] (fun x=>(dT res)) (fun x=>[]):=by
 unfold ref02_less at h0;refine CallF.mkG (X:=X) rfl Tryz.func219 rfl rfl Tryz.ntmps219 rfl rfl ?_;refine aS ?_;refine aA rfl rfl ?_;refine aN rfl ?_;refine T.seq ?_;obtain⟨t1,ht1,h0⟩:=bS h0;refine T.cutC (fun S'=>S'=⟨[(4,(dT t1))],[],22⟩) (fun _ h=>h) ?_ ?_;rotate_left
 ·rintro _ rfl;show T X _ _ _;refine T.ret ?_;obtain rfl:=osi h0;exact rO [] [4] rfl undef (cT rfl ResL.nil) rfl rfl rfl rfl
 refine T.region ?_;refine aA rfl rfl ?_;refine TL.op1 (OpR.cast (OpR.pure rfl) (intE (lenS _))) rfl ?_;refine aA rfl rfl ?_;refine TL.op1 (OpR.cast (OpR.pure rfl) (intE (lenS _))) rfl ?_;iterate 2 refine aA rfl rfl ?_
 rcases ite_some ht1 with ⟨c2,ht1⟩|⟨c2,ht1⟩
 ·refine TL.off rfl rfl rfl rfl (eT c2) rfl rfl ?_;refine TL.off rfl rfl rfl rfl (eT c2) rfl rfl ?_;refine TL.off rfl rfl rfl rfl (eT c2) rfl rfl ?_;refine TL.off rfl rfl rfl rfl (eT c2) rfl rfl ?_;refine TL.off rfl rfl rfl rfl (eT c2) rfl rfl ?_;refine TL.off rfl rfl rfl rfl (eT c2) rfl rfl ?_;refine TL.offU rfl rfl rfl rfl rfl rfl ?_;refine TL.offU rfl rfl rfl rfl rfl rfl ?_;refine TL.offU rfl rfl rfl rfl rfl rfl ?_;refine TL.off rfl rfl rfl rfl (eT c2) rfl rfl ?_;refine TL.op1 (OpR.pickT rfl (eT c2) rfl) rfl ?_;refine aA rfl rfl ?_;refine TL.nil ?_;obtain rfl:=osi ht1;exact⟨_,Gst.only [4] rfl,rfl⟩
 refine TL.on rfl rfl rfl rfl (eF c2) ?_;refine aA rfl rfl ?_;refine TL.on rfl rfl rfl rfl (eF c2) ?_;refine TL.op1 (OpR.cast (OpR.pure rfl) (intE (lenS _))) rfl ?_;refine TL.on rfl rfl rfl rfl (eF c2) ?_;refine aA rfl rfl ?_;refine TL.on rfl rfl rfl rfl (eF c2) ?_;refine TL.op1 (OpR.cast (OpR.pure rfl) (intE (lenS _))) rfl ?_;refine TL.on rfl rfl rfl rfl (eF c2) ?_;refine aA rfl rfl ?_;refine TL.on rfl rfl rfl rfl (eF c2) ?_;refine aA rfl rfl ?_;rcases ite_some ht1 with ⟨c3,ht1⟩|⟨c3,ht1⟩;rotate_left
 ·refine TL.off rfl rfl rfl rfl (beq_eq_false_iff_ne.2 c3) rfl rfl ?_;refine TL.off rfl rfl rfl rfl (beq_eq_false_iff_ne.2 c3) rfl rfl ?_;refine TL.off rfl rfl rfl rfl (beq_eq_false_iff_ne.2 c3) rfl rfl ?_;refine TL.on rfl rfl rfl rfl (eF c2) ?_;refine TL.op1 (OpR.pickF rfl (beq_eq_false_iff_ne.2 c3) rfl) rfl ?_;refine TL.op1 (OpR.pickF rfl (eF c2) rfl) rfl ?_;refine aA rfl rfl ?_;refine TL.nil ?_;obtain rfl:=osi ht1;exact⟨_,Gst.only [4] rfl,rfl⟩
 refine TL.on rfl rfl rfl rfl (beq_iff_eq.2 c3) ?_;refine aA rfl rfl ?_;refine TL.on rfl rfl rfl rfl (beq_iff_eq.2 c3) ?_;refine aA rfl rfl ?_;refine TL.on rfl rfl rfl rfl (beq_iff_eq.2 c3) ?_;refine TL.op1 (OpR.cast (OpR.pure rfl) (boolE (strLt _ _))) rfl ?_;refine TL.on rfl rfl rfl rfl (eF c2) ?_;refine TL.op1 (OpR.pickT rfl (beq_iff_eq.2 c3) rfl) rfl ?_;refine TL.op1 (OpR.pickF rfl (eF c2) rfl) rfl ?_;refine aA rfl rfl ?_;refine TL.nil ?_;obtain rfl:=osi ht1;exact⟨_,Gst.only [4] rfl,rfl⟩
noncomputable def ref02_Parse.l1 (t5:(List UInt8) × Bool) (s12:Int):Option (Lp Int (Ex Unit (Int × Bool))):=
 if s12<(t5.1.length:Int) then
 bnd (idx t5.1 s12) fun x21=>
 bnd (ref02_Digit x21) fun x22=>
 if x22=true then
 some (Lp.next (w64 (s12+1)))
else
 some (Lp.done (Ex.ret (0,false)))
else
 some (Lp.done (Ex.brk ()))
noncomputable def ref02_Parse.l2 (t5:(List UInt8) × Bool) (x24:(List UInt8)) (s30:Int × Int):Option (Lp (Int × Int) Int):=
 if s30.2<(x24.length:Int) then
 bnd (if t5.2=true then
 bnd (idx x24 s30.2) fun x41=>
 some (w64 ((w64 (s30.1*10))-(w64 ((x41.toNat:Int)-48))))
else
 bnd (idx x24 s30.2) fun x42=>
 some (w64 ((w64 ((w64 (s30.1*10))+(x42.toNat:Int)))-48)):Option Int) fun t39=>
 some (Lp.next (t39,w64 (s30.2+1)))
else
 some (Lp.done s30.1)
noncomputable def ref02_Parse (a0:List UInt8):Option (Int × Bool):=
 bnd (if (a0.length:Int)>0 then
 bnd (idx a0 0) fun x3=>
 if (x3.toNat:Int)=43 then
 some true
else
 some ((x3.toNat:Int)==45)
else
 some false:Option Bool) fun t1=>
 bnd (if t1=true then
 bnd (idx a0 0) fun x7=>
 bnd (cut a0 1 (a0.length:Int)) fun x8=>
 some (x8,((x7.toNat:Int)==45))
else
 some (a0,false):Option ((List UInt8) × Bool)) fun t5=>
 if t5.1=[] then
 some (0,false)
else
 bnd (loop (ref02_Parse.l1 t5) 0:Option (Ex Unit (Int × Bool))) fun t10=>match t10 with
| .brk u11=>
 bnd (ref02_bare t5.1) fun x24=>
 bnd (if t5.2=true then
 some [57,50,50,51,51,55,50,48,51,54,56,53,52,55,55,53,56,48,56]
else
 some [57,50,50,51,51,55,50,48,51,54,56,53,52,55,55,53,56,48,55]:Option (List UInt8)) fun t25=>
 bnd (ref02_less t25 x24) fun x27=>
 if x27=true then
 some (0,false)
else
 bnd (loop (ref02_Parse.l2 t5 x24) (0,0):Option Int) fun t29=>
 some (t29,true)
| .ret u11=>some u11
theorem ref02_Parse_c {a0:List UInt8} {res:Int × Bool} (h0:ref02_Parse a0=some res):CallF X 174 [.val (.string (bs a0))] [] (fun x=>.tup [dN res.1,dT res.2]) (fun x=>[]):=by
 unfold ref02_Parse at h0;refine CallF.mkG (X:=X) rfl Tryz.func174 rfl rfl Tryz.ntmps174 rfl rfl ?_;refine aS ?_;iterate 2 refine aA rfl rfl ?_
 refine aN rfl ?_;refine aS ?_;refine aA rfl rfl ?_;refine aN rfl ?_;refine T.seq ?_;refine T.seq ?_;obtain⟨t1,ht1,h0⟩:=bS h0;refine T.cutC (fun S'=>S'=⟨[(21,(dT t1)),(4,(dT false)),(3,(dT false)),(2,(dN 0)),(0,.val (.string (bs a0)))],[],70⟩) (fun _ h=>h) ?_ ?_
 ·refine T.region ?_;refine aA rfl rfl ?_;refine TL.op1 (OpR.cast (OpR.pure rfl) (intE (lenS _))) rfl ?_;iterate 2 refine aA rfl rfl ?_
  rcases ite_some ht1 with ⟨c2,ht1⟩|⟨c2,ht1⟩;rotate_left
  ·refine TL.off rfl rfl rfl rfl (eF c2) rfl rfl ?_;refine TL.off rfl rfl rfl rfl (eF c2) rfl rfl ?_;refine TL.off rfl rfl rfl rfl (eF c2) rfl rfl ?_;refine TL.off rfl rfl rfl rfl (eF c2) rfl rfl ?_;refine TL.offU rfl rfl rfl rfl rfl rfl ?_;refine TL.offU rfl rfl rfl rfl rfl rfl ?_;refine TL.offU rfl rfl rfl rfl rfl rfl ?_;refine TL.off rfl rfl rfl rfl (eF c2) rfl rfl ?_;refine TL.op1 (OpR.pickF rfl (eF c2) rfl) rfl ?_;refine TL.nil ?_;obtain rfl:=osi ht1;exact⟨_,Gst.only [0,2,3,4,21] rfl,rfl⟩
  refine TL.on rfl rfl rfl rfl (eT c2) ?_;refine aA rfl rfl ?_;refine TL.on rfl rfl rfl rfl (eT c2) ?_;obtain⟨x3,hx3,ht1⟩:=bS ht1;refine TL.op1 (OpR.indexS hx3 rfl rfl rfl rfl) rfl ?_;refine TL.on rfl rfl rfl rfl (eT c2) ?_;refine aA rfl rfl ?_;refine TL.on rfl rfl rfl rfl (eT c2) ?_;refine aA rfl rfl ?_;rcases ite_some ht1 with ⟨c4,ht1⟩|⟨c4,ht1⟩
  ·refine TL.off rfl rfl rfl rfl (beq_iff_eq.2 c4) rfl rfl ?_;refine TL.off rfl rfl rfl rfl (beq_iff_eq.2 c4) rfl rfl ?_;refine TL.off rfl rfl rfl rfl (beq_iff_eq.2 c4) rfl rfl ?_;refine TL.on rfl rfl rfl rfl (eT c2) ?_;refine TL.op1 (OpR.pickT rfl (beq_iff_eq.2 c4) rfl) rfl ?_;refine TL.op1 (OpR.pickT rfl (eT c2) rfl) rfl ?_;refine TL.nil ?_;obtain rfl:=osi ht1;exact⟨_,Gst.only [0,2,3,4,21] rfl,rfl⟩
  refine TL.on rfl rfl rfl rfl (beq_eq_false_iff_ne.2 c4) ?_;refine aA rfl rfl ?_;refine TL.on rfl rfl rfl rfl (beq_eq_false_iff_ne.2 c4) ?_;refine TL.op1 (OpR.indexS hx3 rfl rfl rfl rfl) rfl ?_;refine TL.on rfl rfl rfl rfl (beq_eq_false_iff_ne.2 c4) ?_;refine aA rfl rfl ?_;refine TL.on rfl rfl rfl rfl (eT c2) ?_;refine TL.op1 (OpR.pickF rfl (beq_eq_false_iff_ne.2 c4) rfl) rfl ?_;refine TL.op1 (OpR.pickT rfl (eT c2) rfl) rfl ?_;refine TL.nil ?_;obtain rfl:=osi ht1;exact⟨_,Gst.only [0,2,3,4,21] rfl,rfl⟩
 rintro _ rfl;show T X _ _ _;obtain⟨t5,ht5,h0⟩:=bS h0;refine T.cutC (fun S'=>S'=⟨[(4,(dT t5.2)),(3,(dT false)),(2,(dN 0)),(0,.val (.string (bs t5.1)))],[],70⟩) (fun _ h=>h) ?_ ?_
 ·rcases ite_some ht5 with ⟨c6,ht5⟩|⟨c6,ht5⟩;rotate_left
  ·refine T.condF rfl (eq_false_of_ne_true c6) ?_;refine T.skip ?_;obtain rfl:=osi ht5;exact⟨_,Gst.only [0,2,3,4] rfl,rfl⟩
  refine T.condT rfl (c6) ?_;refine aS ?_;refine aA rfl rfl ?_;obtain⟨x7,hx7,ht5⟩:=bS ht5;refine TL.op1 (OpR.indexS hx7 rfl rfl rfl rfl) rfl ?_;iterate 2 refine aA rfl rfl ?_
  refine aN rfl ?_;refine T.region ?_;refine aA rfl rfl ?_;obtain⟨x8,hx8,ht5⟩:=bS ht5;refine TL.op1 (OpR.sliceS hx8 rfl rfl rfl (BdM.some rfl) BdM.none) rfl ?_;refine aA rfl rfl ?_;refine TL.nil ?_;obtain rfl:=osi ht5;exact⟨_,Gst.only [0,2,3,4] rfl,rfl⟩
 rintro _ rfl;show T X _ _ _;refine T.seq ?_;refine aS ?_;refine aA rfl rfl ?_;refine TL.op1 (OpR.cast (OpR.pure rfl) (boolE (strEq _ _))) rfl ?_;refine aN rfl ?_;rcases ite_some h0 with ⟨c9,h0⟩|⟨c9,h0⟩
 ·refine T.condT rfl (beq_iff_eq.2 c9) ?_;refine aS ?_;iterate 2 refine aA rfl rfl ?_
  refine aN rfl ?_;refine T.ret ?_;obtain rfl:=osi h0;exact rO [] [2,3] rfl undef (cT rfl (cT rfl ResL.nil)) rfl rfl rfl rfl
 refine T.condF rfl (beq_eq_false_iff_ne.2 c9) ?_;refine aK rfl ?_;refine T.seq ?_;refine aS ?_;refine aA rfl rfl ?_;refine aN rfl ?_;obtain⟨t10,ht10,h0⟩:=bS h0;refine T.cutC (fun S'=>∃ u11,t10=Ex.brk u11∧S'=⟨[(4,(dT t5.2)),(3,(dT false)),(2,(dN 0)),(0,.val (.string (bs t5.1)))],[],70⟩) (fun _ h=>h) ?_ ?_
 ·refine T.block ?_;obtain⟨n13,n18⟩:=loop_some ht10;refine T.loop (fun n S'=>∃ S'',Gst S' S''∧∃ s12:Int,S''=⟨[(5,(dN s12)),(4,(dT t5.2)),(3,(dT false)),(2,(dN 0)),(0,.val (.string (bs t5.1)))],[],70⟩∧iter (ref02_Parse.l1 t5) n s12=some t10) n13 ?_ ?_
  ·exact⟨_,Gst.only [0,2,3,4,5] rfl,0,rfl,n18⟩
  rintro n13 _ ⟨_,g,s12,rfl,i17⟩;refine T.ghost g ?_;obtain⟨m14,q15,rfl,q16,i17⟩:=iter_succ i17;unfold ref02_Parse.l1 at q16;refine T.seq ?_;refine aS ?_;iterate 2 refine aA rfl rfl ?_
  refine TL.op1 (OpR.cast (OpR.pure rfl) (intE (lenS _))) rfl ?_;refine aA rfl rfl ?_;refine aN rfl ?_;rcases ite_some q16 with ⟨c20,q16⟩|⟨c20,q16⟩;rotate_left
  ·refine T.condF rfl (eF c20) ?_;refine T.exit ?_;obtain rfl:=osi q16;obtain rfl:_=_:=i17;exact⟨_,Gst.only [0,2,3,4] rfl,_,rfl,rfl⟩
  refine T.condT rfl (eT c20) ?_;refine aK rfl ?_;refine T.seq ?_;refine T.block ?_;refine aS ?_;iterate 2 refine aA rfl rfl ?_
  obtain⟨x21,hx21,q16⟩:=bS q16;refine TL.op1 (OpR.indexS hx21 rfl rfl rfl rfl) rfl ?_;obtain⟨x22,hx22,q16⟩:=bS q16;refine TL.op1 (OpR.call0 fn217 (ref02_Digit_c hx22) rfl) rfl ?_;refine aA rfl rfl ?_;refine aN rfl ?_;rcases ite_some q16 with ⟨c23,q16⟩|⟨c23,q16⟩
  ·refine T.condF rfl (not_t (c23)) ?_;refine aK rfl ?_;refine T.region ?_;iterate 3 refine aA rfl rfl ?_
   refine TL.nil ?_;obtain rfl:=osi q16;exact⟨m14,Nat.lt_succ_self _,_,Gst.only [0,2,3,4,5] rfl,w64 (s12+1),rfl,i17⟩
  refine T.condT rfl (not_f (eq_false_of_ne_true c23)) ?_;refine aS ?_;iterate 2 refine aA rfl rfl ?_
  refine aN rfl ?_;refine T.ret ?_;obtain rfl:=osi q16;obtain rfl:_=_:=i17;obtain rfl:=osi h0;exact rO [] [2,3] rfl undef (cT rfl (cT rfl ResL.nil)) rfl rfl rfl rfl
 rintro _ ⟨u11,rfl,rfl⟩;show T X _ _ _;refine aS ?_;refine aA rfl rfl ?_;obtain⟨x24,hx24,h0⟩:=bS h0;refine TL.op1 (OpR.call0 fn218 (ref02_bare_c hx24) rfl) rfl ?_;refine aA rfl rfl ?_;refine aN rfl ?_;refine aS ?_;refine aA rfl rfl ?_;refine aN rfl ?_;refine T.seq ?_;refine aS ?_;refine aA rfl rfl ?_;refine aN rfl ?_;obtain⟨t25,ht25,h0⟩:=bS h0;refine T.cutC (fun S'=>S'=⟨[(6,.val (.string (bs t25))),(4,(dT t5.2)),(3,(dT false)),(2,(dN 0)),(0,.val (.string (bs x24)))],[],70⟩) (fun _ h=>h) ?_ ?_
 ·rcases ite_some ht25 with ⟨c26,ht25⟩|⟨c26,ht25⟩;rotate_left
  ·refine T.condF rfl (eq_false_of_ne_true c26) ?_;refine T.skip ?_;obtain rfl:=osi ht25;exact⟨_,Gst.only [0,2,3,4,6] rfl,rfl⟩
  refine T.condT rfl (c26) ?_;refine T.region ?_;refine aA rfl rfl ?_;refine TL.nil ?_;obtain rfl:=osi ht25;exact⟨_,Gst.only [0,2,3,4,6] rfl,rfl⟩
 rintro _ rfl;show T X _ _ _;refine T.seq ?_;refine aS ?_;iterate 2 refine aA rfl rfl ?_
 obtain⟨x27,hx27,h0⟩:=bS h0;refine TL.op1 (OpR.call0 fn219 (ref02_less_c hx27) rfl) rfl ?_;refine aN rfl ?_;rcases ite_some h0 with ⟨c28,h0⟩|⟨c28,h0⟩
 ·refine T.condT rfl (c28) ?_;refine aS ?_;iterate 2 refine aA rfl rfl ?_
  refine aN rfl ?_;refine T.ret ?_;obtain rfl:=osi h0;exact rO [] [2,3] rfl undef (cT rfl (cT rfl ResL.nil)) rfl rfl rfl rfl
 refine T.condF rfl (eq_false_of_ne_true c28) ?_;refine aK rfl ?_;refine aS ?_;refine aA rfl rfl ?_;refine aN rfl ?_;refine T.seq ?_;refine aS ?_;refine aA rfl rfl ?_;refine aN rfl ?_;obtain⟨t29,ht29,h0⟩:=bS h0;refine T.cutC (fun S'=>S'=⟨[(7,(dN t29)),(3,(dT false)),(2,(dN 0))],[],70⟩) (fun _ h=>h) ?_ ?_;rotate_left
 ·rintro _ rfl;show T X _ _ _;refine aS ?_;iterate 3 refine aA rfl rfl ?_
  refine aN rfl ?_;refine T.ret ?_;obtain rfl:=osi h0;exact rO [] [2,3] rfl undef (cT rfl (cT rfl ResL.nil)) rfl rfl rfl rfl
 refine T.block ?_;obtain⟨n31,n36⟩:=loop_some ht29;refine T.loop (fun n S'=>∃ S'',Gst S' S''∧∃ s30:Int × Int,S''=⟨[(8,(dN s30.2)),(7,(dN s30.1)),(4,(dT t5.2)),(3,(dT false)),(2,(dN 0)),(0,.val (.string (bs x24)))],[],70⟩∧iter (ref02_Parse.l2 t5 x24) n s30=some t29) n31 ?_ ?_
 ·exact⟨_,Gst.only [0,2,3,4,7,8] rfl,(0,0),rfl,n36⟩
 rintro n31 _ ⟨_,g,s30,rfl,i35⟩;refine T.ghost g ?_;obtain⟨m32,q33,rfl,q34,i35⟩:=iter_succ i35;unfold ref02_Parse.l2 at q34;refine T.seq ?_;refine aS ?_;iterate 2 refine aA rfl rfl ?_
 refine TL.op1 (OpR.cast (OpR.pure rfl) (intE (lenS _))) rfl ?_;refine aA rfl rfl ?_;refine aN rfl ?_;rcases ite_some q34 with ⟨c38,q34⟩|⟨c38,q34⟩;rotate_left
 ·refine T.condF rfl (eF c38) ?_;refine T.exit ?_;obtain rfl:=osi q34;obtain rfl:_=_:=i35;exact⟨_,Gst.only [2,3,7] rfl,rfl⟩
 refine T.condT rfl (eT c38) ?_;refine aK rfl ?_;refine T.seq ?_;refine T.block ?_;refine aS ?_;refine aA rfl rfl ?_;refine aN rfl ?_;obtain⟨t39,ht39,q34⟩:=bS q34;refine T.cutC (fun S'=>S'=⟨[(8,(dN s30.2)),(7,(dN t39)),(4,(dT t5.2)),(3,(dT false)),(2,(dN 0)),(0,.val (.string (bs x24)))],[],70⟩) (fun _ h=>h) ?_ ?_;rotate_left
 ·rintro _ rfl;show T X _ _ _;refine T.region ?_;iterate 3 refine aA rfl rfl ?_
  refine TL.nil ?_;obtain rfl:=osi q34;exact⟨m32,Nat.lt_succ_self _,_,Gst.only [0,2,3,4,7,8] rfl,(t39,w64 (s30.2+1)),rfl,i35⟩
 rcases ite_some ht39 with ⟨c40,ht39⟩|⟨c40,ht39⟩
 ·refine T.condT rfl (c40) ?_;refine T.region ?_;iterate 4 refine aA rfl rfl ?_
  obtain⟨x41,hx41,ht39⟩:=bS ht39;refine TL.op1 (OpR.indexS hx41 rfl rfl rfl rfl) rfl ?_;refine TL.op1 (OpR.cast (OpR.pure rfl) (intE (w64_u8 _))) rfl ?_;iterate 3 refine aA rfl rfl ?_
  refine TL.nil ?_;obtain rfl:=osi ht39;exact⟨_,Gst.only [0,2,3,4,7,8] rfl,rfl⟩
 refine T.condF rfl (eq_false_of_ne_true c40) ?_;refine T.region ?_;iterate 4 refine aA rfl rfl ?_
 obtain⟨x42,hx42,ht39⟩:=bS ht39;refine TL.op1 (OpR.indexS hx42 rfl rfl rfl rfl) rfl ?_;refine TL.op1 (OpR.cast (OpR.pure rfl) (intE (w64_u8 _))) rfl ?_;iterate 3 refine aA rfl rfl ?_
 refine TL.nil ?_;obtain rfl:=osi ht39;exact⟨_,Gst.only [0,2,3,4,7,8] rfl,rfl⟩
noncomputable def ref02_Compare (a0:List UInt8) (a1:List UInt8):Option Int:=
 bnd (ref02_Parse a0) fun x1=>
 bnd (ref02_Parse a1) fun x2=>
 bnd (if x1.2=true then
 some x2.2
else
 some false:Option Bool) fun t3=>
 bnd (if t3=true then
 some (decide (x1.1<x2.1),decide (x2.1<x1.1))
else
 some ((Op.bytesLess a0 a1),(Op.bytesLess a1 a0)):Option (Bool × Bool)) fun t5=>
 bnd (if (x1.2==x2.2)=true then
 some (t5.1,t5.2)
else
 some (x1.2,x2.2):Option (Bool × Bool)) fun t7=>
 if t7.1=true then
 some (-1)
else
 if t7.2=true then
 some 1
else
 some 0
theorem ref02_Compare_c {a0:List UInt8} {a1:List UInt8} {res:Int} (h0:ref02_Compare a0 a1=some res):CallF X 109 [.val (.string (bs a0)),.val (.string (bs a1))] [] (fun x=>(dN res)) (fun x=>[]):=by
 unfold ref02_Compare at h0;refine CallF.mkG (X:=X) rfl Tryz.func109 rfl rfl Tryz.ntmps109 rfl rfl ?_;refine aS ?_;refine aA rfl rfl ?_;refine aN rfl ?_;refine aS ?_;refine aA rfl rfl ?_;obtain⟨x1,hx1,h0⟩:=bS h0;refine TL.op1 (OpR.call0 fn174 (ref02_Parse_c hx1) rfl) rfl ?_;iterate 5 refine aA rfl rfl ?_
 refine aN rfl ?_;refine aS ?_;refine aA rfl rfl ?_;obtain⟨x2,hx2,h0⟩:=bS h0;refine TL.op1 (OpR.call0 fn174 (ref02_Parse_c hx2) rfl) rfl ?_;iterate 5 refine aA rfl rfl ?_
 refine aN rfl ?_;refine aS ?_;iterate 2 refine aA rfl rfl ?_
 refine TL.op1 (OpR.cast (OpR.pure rfl) (boolE (strLt _ _))) rfl ?_;iterate 2 refine aA rfl rfl ?_
 refine TL.op1 (OpR.cast (OpR.pure rfl) (boolE (strLt _ _))) rfl ?_;iterate 2 refine aA rfl rfl ?_
 refine aN rfl ?_;refine T.seq ?_;refine T.seq ?_;obtain⟨t3,ht3,h0⟩:=bS h0;refine T.cutC (fun S'=>S'=⟨[(30,(dT t3)),(10,(dT (Op.bytesLess a1 a0))),(9,(dT (Op.bytesLess a0 a1))),(8,(dT x2.2)),(7,(dN x2.1)),(6,(dT x1.2)),(5,(dN x1.1)),(4,(dN 0))],[],44⟩) (fun _ h=>h) ?_ ?_
 ·refine T.region ?_;iterate 2 refine aA rfl rfl ?_
  rcases ite_some ht3 with ⟨c4,ht3⟩|⟨c4,ht3⟩
  ·refine TL.on rfl rfl rfl rfl (c4) ?_;refine aA rfl rfl ?_;refine TL.op1 (OpR.pickT rfl (c4) rfl) rfl ?_;refine TL.nil ?_;obtain rfl:=osi ht3;exact⟨_,Gst.only [4,5,6,7,8,9,10,30] rfl,rfl⟩
  refine TL.off rfl rfl rfl rfl (eq_false_of_ne_true c4) rfl rfl ?_;refine TL.op1 (OpR.pickF rfl (eq_false_of_ne_true c4) rfl) rfl ?_;refine TL.nil ?_;obtain rfl:=osi ht3;exact⟨_,Gst.only [4,5,6,7,8,9,10,30] rfl,rfl⟩
 rintro _ rfl;show T X _ _ _;obtain⟨t5,ht5,h0⟩:=bS h0;refine T.cutC (fun S'=>S'=⟨[(10,(dT t5.2)),(9,(dT t5.1)),(8,(dT x2.2)),(6,(dT x1.2)),(4,(dN 0))],[],44⟩) (fun _ h=>h) ?_ ?_
 ·rcases ite_some ht5 with ⟨c6,ht5⟩|⟨c6,ht5⟩;rotate_left
  ·refine T.condF rfl (eq_false_of_ne_true c6) ?_;refine T.skip ?_;obtain rfl:=osi ht5;exact⟨_,Gst.only [4,6,8,9,10] rfl,rfl⟩
  refine T.condT rfl (c6) ?_;refine T.region ?_;iterate 8 refine aA rfl rfl ?_
  refine TL.nil ?_;obtain rfl:=osi ht5;exact⟨_,Gst.only [4,6,8,9,10] rfl,rfl⟩
 rintro _ rfl;show T X _ _ _;refine T.seq ?_;refine aS ?_;iterate 2 refine aA rfl rfl ?_
 refine TL.op1 (OpR.neBool rfl rfl rfl rfl) rfl ?_;refine aN rfl ?_;obtain⟨t7,ht7,h0⟩:=bS h0;refine T.cutC (fun S'=>S'=⟨[(10,(dT t7.2)),(9,(dT t7.1)),(4,(dN 0))],[],44⟩) (fun _ h=>h) ?_ ?_
 ·rcases ite_some ht7 with ⟨c8,ht7⟩|⟨c8,ht7⟩
  ·refine T.condF rfl (not_t (c8)) ?_;refine T.skip ?_;obtain rfl:=osi ht7;exact⟨_,Gst.only [4,9,10] rfl,rfl⟩
  refine T.condT rfl (not_f (eq_false_of_ne_true c8)) ?_;refine T.region ?_;iterate 4 refine aA rfl rfl ?_
  refine TL.nil ?_;obtain rfl:=osi ht7;exact⟨_,Gst.only [4,9,10] rfl,rfl⟩
 rintro _ rfl;show T X _ _ _;refine T.seq ?_;refine aS ?_;refine aA rfl rfl ?_;refine aN rfl ?_;rcases ite_some h0 with ⟨c9,h0⟩|⟨c9,h0⟩
 ·refine T.condT rfl (c9) ?_;refine aS ?_;refine aA rfl rfl ?_;refine aN rfl ?_;refine T.ret ?_;obtain rfl:=osi h0;exact rO [] [4] rfl undef (cT rfl ResL.nil) rfl rfl rfl rfl
 refine T.condF rfl (eq_false_of_ne_true c9) ?_;refine aK rfl ?_;refine T.seq ?_;refine aS ?_;refine aA rfl rfl ?_;refine aN rfl ?_;rcases ite_some h0 with ⟨c10,h0⟩|⟨c10,h0⟩
 ·refine T.condT rfl (c10) ?_;refine aS ?_;refine aA rfl rfl ?_;refine aN rfl ?_;refine T.ret ?_;obtain rfl:=osi h0;exact rO [] [4] rfl undef (cT rfl ResL.nil) rfl rfl rfl rfl
 refine T.condF rfl (eq_false_of_ne_true c10) ?_;refine aK rfl ?_;refine aS ?_;refine aA rfl rfl ?_;refine aN rfl ?_;refine T.ret ?_;obtain rfl:=osi h0;exact rO [] [4] rfl undef (cT rfl ResL.nil) rfl rfl rfl rfl
noncomputable def ref18_plain (a0:List UInt8) (a1:ref18_Test):Option Bool:=
 if a1.fOp=0 then
 bnd (if a1.fArg=[] then
 some true
else
 bnd (ref17_Every a0 a1.fArg) fun x5=>
 some (decide ((x5.length:Int)>0)):Option Bool) fun t3=>
 some t3
else
 if a1.fOp=1 then
 some (a0==a1.fArg)
else
 if a1.fOp=2 then
 bnd (ref02_Compare a0 a1.fArg) fun x8=>
 some (decide (x8<0))
else
 if a1.fOp=3 then
 bnd (ref02_Compare a0 a1.fArg) fun x10=>
 some (decide (x10>0))
else
 if a1.fOp=4 then
 bnd (if (a0.length:Int)≥(a1.fArg.length:Int) then
 bnd (cut a0 0 (a1.fArg.length:Int)) fun x15=>
 some (x15==a1.fArg)
else
 some false:Option Bool) fun t12=>
 some t12
else
 if a1.fOp=5 then
 bnd (if (a0.length:Int)≥(a1.fArg.length:Int) then
 bnd (cut a0 (w64 ((a0.length:Int)-(a1.fArg.length:Int))) (a0.length:Int)) fun x20=>
 some (x20==a1.fArg)
else
 some false:Option Bool) fun t17=>
 some t17
else
 some (a0==[])
theorem ref18_plain_c {a0:List UInt8} {a1:ref18_Test} {res:Bool} (h0:ref18_plain a0 a1=some res):CallF X 114 [.val (.string (bs a0)),.agg [dN a1.fCol,dN a1.fOp,.val (.string (bs a1.fArg)),dT a1.fNot]] [] (fun x=>(dT res)) (fun x=>[]):=by
 unfold ref18_plain at h0;refine CallF.mkG (X:=X) rfl Tryz.func114 rfl rfl Tryz.ntmps114 rfl rfl ?_;refine aS ?_;refine TL.op1 (OpR.boxImm rfl rfl) rfl ?_;refine aA rfl rfl ?_;refine aN rfl ?_;refine T.seq ?_;refine T.drawQ drawsX [.val (.string (bs a0)),dN (a0.length:Int),.nod [.val (.string (bs a1.fArg)),dT a1.fNot],.val (.string (bs a1.fArg)),dN (a1.fArg.length:Int),dN (a0.length:Int),dN (a1.fArg.length:Int)] [0,3,4,5,6] (by decide +kernel) rfl ?_ rfl ?_
 ·refine aB rfl rfl rfl ?_;refine OpsQ.yes (Want.plain rfl) rfl (OpR.cast (OpR.pure rfl) (intE (lenS _))) ?_;iterate 2 refine aB rfl rfl rfl ?_
  refine OpsQ.yes (Want.plain rfl) rfl (OpR.cast (OpR.pure rfl) (intE (lenS _))) ?_;iterate 2 refine aB rfl rfl rfl ?_
  exact OpsQ.nil
 show T X _ _ _;refine T.seq ?_;refine aS ?_;iterate 3 refine aA rfl rfl ?_
 refine aN rfl ?_;rcases ite_some h0 with ⟨c2,h0⟩|⟨c2,h0⟩
 ·refine T.condT rfl (beq_iff_eq.2 c2) ?_;refine T.seq ?_;obtain⟨t3,ht3,h0⟩:=bS h0;refine T.cutC (fun S'=>S'=⟨[(6,(dN (a1.fArg.length:Int))),(5,(dN (a0.length:Int))),(4,(dT t3)),(3,.nod [dN a1.fCol,dN a1.fOp,.val (.string (bs a1.fArg)),dT a1.fNot]),(0,.val (.string (bs a0)))],[],81⟩) (fun _ h=>h) ?_ ?_;rotate_left
  ·rintro _ rfl;show T X _ _ _;refine T.ret ?_;obtain rfl:=osi h0;exact rO [] [4] rfl undef (cT rfl ResL.nil) rfl rfl rfl rfl
  refine T.region ?_;iterate 2 refine aA rfl rfl ?_
  refine TL.op1 (OpR.cast (OpR.pure rfl) (boolE (strEq _ _))) rfl ?_;refine aA rfl rfl ?_;rcases ite_some ht3 with ⟨c4,ht3⟩|⟨c4,ht3⟩
  ·refine TL.off rfl rfl rfl rfl (beq_iff_eq.2 c4) rfl rfl ?_;refine TL.off rfl rfl rfl rfl (beq_iff_eq.2 c4) rfl rfl ?_;refine TL.off rfl rfl rfl rfl (beq_iff_eq.2 c4) rfl rfl ?_;refine TL.off rfl rfl rfl rfl (beq_iff_eq.2 c4) rfl rfl ?_;refine TL.off rfl rfl rfl rfl (beq_iff_eq.2 c4) rfl rfl ?_;refine TL.off rfl rfl rfl rfl (beq_iff_eq.2 c4) rfl rfl ?_;refine TL.op1 (OpR.pickT rfl (beq_iff_eq.2 c4) rfl) rfl ?_;refine aA rfl rfl ?_;refine TL.nil ?_;obtain rfl:=osi ht3;exact⟨_,Gst.only [0,3,4,5,6] rfl,rfl⟩
  refine TL.on rfl rfl rfl rfl (beq_eq_false_iff_ne.2 c4) ?_;refine aA rfl rfl ?_;refine TL.on rfl rfl rfl rfl (beq_eq_false_iff_ne.2 c4) ?_;refine aA rfl rfl ?_;refine TL.on rfl rfl rfl rfl (beq_eq_false_iff_ne.2 c4) ?_;refine aA rfl rfl ?_;refine TL.on rfl rfl rfl rfl (beq_eq_false_iff_ne.2 c4) ?_;obtain⟨x5,hx5,ht3⟩:=bS ht3;refine TL.op1 (OpR.call0 fn184 (ref17_Every_c hx5) rfl) rfl ?_;refine TL.on rfl rfl rfl rfl (beq_eq_false_iff_ne.2 c4) ?_;refine TL.op1 (OpR.cast (OpR.pure rfl) (intE (lenM _ _))) rfl ?_;refine TL.on rfl rfl rfl rfl (beq_eq_false_iff_ne.2 c4) ?_;refine aA rfl rfl ?_;refine TL.op1 (OpR.pickF rfl (beq_eq_false_iff_ne.2 c4) rfl) rfl ?_;refine aA rfl rfl ?_;refine TL.nil ?_;obtain rfl:=osi ht3;exact⟨_,Gst.only [0,3,4,5,6] rfl,rfl⟩
 refine T.condF rfl (beq_eq_false_iff_ne.2 c2) ?_;refine aK rfl ?_;refine T.seq ?_;refine aS ?_;iterate 3 refine aA rfl rfl ?_
 refine aN rfl ?_;rcases ite_some h0 with ⟨c6,h0⟩|⟨c6,h0⟩
 ·refine T.condT rfl (beq_iff_eq.2 c6) ?_;refine aS ?_;iterate 3 refine aA rfl rfl ?_
  refine TL.op1 (OpR.cast (OpR.pure rfl) (boolE (strEq _ _))) rfl ?_;refine aA rfl rfl ?_;refine aN rfl ?_;refine T.ret ?_;obtain rfl:=osi h0;exact rO [] [4] rfl undef (cT rfl ResL.nil) rfl rfl rfl rfl
 refine T.condF rfl (beq_eq_false_iff_ne.2 c6) ?_;refine aK rfl ?_;refine T.seq ?_;refine aS ?_;iterate 3 refine aA rfl rfl ?_
 refine aN rfl ?_;rcases ite_some h0 with ⟨c7,h0⟩|⟨c7,h0⟩
 ·refine T.condT rfl (beq_iff_eq.2 c7) ?_;refine aS ?_;iterate 3 refine aA rfl rfl ?_
  obtain⟨x8,hx8,h0⟩:=bS h0;refine TL.op1 (OpR.call0 fn109 (ref02_Compare_c hx8) rfl) rfl ?_;iterate 2 refine aA rfl rfl ?_
  refine aN rfl ?_;refine T.ret ?_;obtain rfl:=osi h0;exact rO [] [4] rfl undef (cT rfl ResL.nil) rfl rfl rfl rfl
 refine T.condF rfl (beq_eq_false_iff_ne.2 c7) ?_;refine aK rfl ?_;refine T.seq ?_;refine aS ?_;iterate 3 refine aA rfl rfl ?_
 refine aN rfl ?_;rcases ite_some h0 with ⟨c9,h0⟩|⟨c9,h0⟩
 ·refine T.condT rfl (beq_iff_eq.2 c9) ?_;refine aS ?_;iterate 3 refine aA rfl rfl ?_
  obtain⟨x10,hx10,h0⟩:=bS h0;refine TL.op1 (OpR.call0 fn109 (ref02_Compare_c hx10) rfl) rfl ?_;iterate 2 refine aA rfl rfl ?_
  refine aN rfl ?_;refine T.ret ?_;obtain rfl:=osi h0;exact rO [] [4] rfl undef (cT rfl ResL.nil) rfl rfl rfl rfl
 refine T.condF rfl (beq_eq_false_iff_ne.2 c9) ?_;refine aK rfl ?_;refine T.seq ?_;refine aS ?_;iterate 3 refine aA rfl rfl ?_
 refine aN rfl ?_;rcases ite_some h0 with ⟨c11,h0⟩|⟨c11,h0⟩
 ·refine T.condT rfl (beq_iff_eq.2 c11) ?_;refine T.seq ?_;obtain⟨t12,ht12,h0⟩:=bS h0;refine T.cutC (fun S'=>S'=⟨[(6,(dN (a1.fArg.length:Int))),(5,(dN (a0.length:Int))),(4,(dT t12)),(3,.nod [dN a1.fCol,dN a1.fOp,.val (.string (bs a1.fArg)),dT a1.fNot]),(0,.val (.string (bs a0)))],[],81⟩) (fun _ h=>h) ?_ ?_;rotate_left
  ·rintro _ rfl;show T X _ _ _;refine T.ret ?_;obtain rfl:=osi h0;exact rO [] [4] rfl undef (cT rfl ResL.nil) rfl rfl rfl rfl
  rcases ite_some ht12 with ⟨c14,ht12⟩|⟨c14,ht12⟩;rotate_left
  ·refine T.drawQ drawsX [dN (a0.length:Int),dN (a1.fArg.length:Int),dT (decide ((a0.length:Int)≥(a1.fArg.length:Int))),dT (decide ((a0.length:Int)≥(a1.fArg.length:Int))),.tup [],.tup [],.tup [],.tup [],.tup [],.tup [],dT false,dT false] [0,3,4,5,6] (by decide +kernel) rfl ?_ rfl ?_;rotate_left
   ·obtain rfl:=osi ht12;exact⟨_,Gst.only [0,3,4,5,6] rfl,rfl⟩
   iterate 4 refine aB rfl rfl rfl ?_
   refine OpsQ.no (Want.bool rfl rfl rfl rfl (by rw[(eF c14)]; rfl)) rfl ?_;refine OpsQ.no (Want.bool rfl rfl rfl rfl (by rw[(eF c14)]; rfl)) rfl ?_;refine OpsQ.no (Want.bool rfl rfl rfl rfl (by rw[(eF c14)]; rfl)) rfl ?_;refine OpsQ.no (Want.bool rfl rfl rfl rfl (by rw[(eF c14)]; rfl)) rfl ?_;refine OpsQ.no (Want.bool rfl rfl rfl rfl (by rw[(eF c14)]; rfl)) rfl ?_;refine OpsQ.no (Want.bool rfl rfl rfl rfl (by rw[(eF c14)]; rfl)) rfl ?_;refine OpsQ.yes (Want.plain rfl) rfl (OpR.pickF rfl (eF c14) rfl) ?_;refine aB rfl rfl rfl ?_;exact OpsQ.nil
  obtain⟨x15,hx15,ht12⟩:=bS ht12;refine T.drawQ drawsX [dN (a0.length:Int),dN (a1.fArg.length:Int),dT (decide ((a0.length:Int)≥(a1.fArg.length:Int))),dT (decide ((a0.length:Int)≥(a1.fArg.length:Int))),.val (.string (bs a0)),dN (a1.fArg.length:Int),.val (.string (bs x15)),.nod [.val (.string (bs a1.fArg)),dT a1.fNot],.val (.string (bs a1.fArg)),dT (x15==a1.fArg),dT (x15==a1.fArg),dT (x15==a1.fArg)] [0,3,4,5,6] (by decide +kernel) rfl ?_ rfl ?_;rotate_left
  ·obtain rfl:=osi ht12;exact⟨_,Gst.only [0,3,4,5,6] rfl,rfl⟩
  iterate 4 refine aB rfl rfl rfl ?_
  refine OpsQ.yes (Want.bool rfl rfl rfl rfl (by rw[(eT c14)]; rfl)) rfl (OpR.pure rfl) ?_;refine OpsQ.yes (Want.bool rfl rfl rfl rfl (by rw[(eT c14)]; rfl)) rfl (OpR.pure rfl) ?_;refine OpsQ.yes (Want.bool rfl rfl rfl rfl (by rw[(eT c14)]; rfl)) rfl (OpR.sliceS hx15 rfl rfl rfl BdM.none (BdM.some rfl)) ?_;refine OpsQ.yes (Want.bool rfl rfl rfl rfl (by rw[(eT c14)]; rfl)) rfl (OpR.pure rfl) ?_;refine OpsQ.yes (Want.bool rfl rfl rfl rfl (by rw[(eT c14)]; rfl)) rfl (OpR.pure rfl) ?_;refine OpsQ.yes (Want.bool rfl rfl rfl rfl (by rw[(eT c14)]; rfl)) rfl (OpR.cast (OpR.pure rfl) (boolE (strEq _ _))) ?_;refine OpsQ.yes (Want.plain rfl) rfl (OpR.pickT rfl (eT c14) rfl) ?_;refine aB rfl rfl rfl ?_;exact OpsQ.nil
 refine T.condF rfl (beq_eq_false_iff_ne.2 c11) ?_;refine aK rfl ?_;refine T.seq ?_;refine aS ?_;iterate 3 refine aA rfl rfl ?_
 refine aN rfl ?_;rcases ite_some h0 with ⟨c16,h0⟩|⟨c16,h0⟩;rotate_left
 ·refine T.condF rfl (beq_eq_false_iff_ne.2 c16) ?_;refine aK rfl ?_;refine aS ?_;refine aA rfl rfl ?_;refine TL.op1 (OpR.cast (OpR.pure rfl) (boolE (strEq _ _))) rfl ?_;refine aA rfl rfl ?_;refine aN rfl ?_;refine T.ret ?_;obtain rfl:=osi h0;exact rO [] [4] rfl undef (cT rfl ResL.nil) rfl rfl rfl rfl
 refine T.condT rfl (beq_iff_eq.2 c16) ?_;refine T.seq ?_;obtain⟨t17,ht17,h0⟩:=bS h0;refine T.cutC (fun S'=>S'=⟨[(4,(dT t17)),(0,.val (.string (bs a0)))],[],81⟩) (fun _ h=>h) ?_ ?_;rotate_left
 ·rintro _ rfl;show T X _ _ _;refine T.ret ?_;obtain rfl:=osi h0;exact rO [] [4] rfl undef (cT rfl ResL.nil) rfl rfl rfl rfl
 rcases ite_some ht17 with ⟨c19,ht17⟩|⟨c19,ht17⟩;rotate_left
 ·refine T.drawQ drawsX [dN (a0.length:Int),dN (a1.fArg.length:Int),dT (decide ((a0.length:Int)≥(a1.fArg.length:Int))),dT (decide ((a0.length:Int)≥(a1.fArg.length:Int))),.tup [],.tup [],.tup [],.tup [],.tup [],.tup [],.tup [],.tup [],dT false,dT false] [0,4] (by decide +kernel) rfl ?_ rfl ?_;rotate_left
  ·obtain rfl:=osi ht17;exact⟨_,Gst.only [0,4] rfl,rfl⟩
  iterate 4 refine aB rfl rfl rfl ?_
  refine OpsQ.no (Want.bool rfl rfl rfl rfl (by rw[(eF c19)]; rfl)) rfl ?_;refine OpsQ.no (Want.bool rfl rfl rfl rfl (by rw[(eF c19)]; rfl)) rfl ?_;refine OpsQ.no (Want.bool rfl rfl rfl rfl (by rw[(eF c19)]; rfl)) rfl ?_;refine OpsQ.no (Want.bool rfl rfl rfl rfl (by rw[(eF c19)]; rfl)) rfl ?_;refine OpsQ.no (Want.bool rfl rfl rfl rfl (by rw[(eF c19)]; rfl)) rfl ?_;refine OpsQ.no (Want.bool rfl rfl rfl rfl (by rw[(eF c19)]; rfl)) rfl ?_;refine OpsQ.no (Want.bool rfl rfl rfl rfl (by rw[(eF c19)]; rfl)) rfl ?_;refine OpsQ.no (Want.bool rfl rfl rfl rfl (by rw[(eF c19)]; rfl)) rfl ?_;refine OpsQ.yes (Want.plain rfl) rfl (OpR.pickF rfl (eF c19) rfl) ?_;refine aB rfl rfl rfl ?_;exact OpsQ.nil
 obtain⟨x20,hx20,ht17⟩:=bS ht17;refine T.drawQ drawsX [dN (a0.length:Int),dN (a1.fArg.length:Int),dT (decide ((a0.length:Int)≥(a1.fArg.length:Int))),dT (decide ((a0.length:Int)≥(a1.fArg.length:Int))),.val (.string (bs a0)),dN (a0.length:Int),dN (a1.fArg.length:Int),dN (w64 ((a0.length:Int)-(a1.fArg.length:Int))),.val (.string (bs x20)),.nod [.val (.string (bs a1.fArg)),dT a1.fNot],.val (.string (bs a1.fArg)),dT (x20==a1.fArg),dT (x20==a1.fArg),dT (x20==a1.fArg)] [0,4] (by decide +kernel) rfl ?_ rfl ?_;rotate_left
 ·obtain rfl:=osi ht17;exact⟨_,Gst.only [0,4] rfl,rfl⟩
 iterate 4 refine aB rfl rfl rfl ?_
 refine OpsQ.yes (Want.bool rfl rfl rfl rfl (by rw[(eT c19)]; rfl)) rfl (OpR.pure rfl) ?_;refine OpsQ.yes (Want.bool rfl rfl rfl rfl (by rw[(eT c19)]; rfl)) rfl (OpR.pure rfl) ?_;refine OpsQ.yes (Want.bool rfl rfl rfl rfl (by rw[(eT c19)]; rfl)) rfl (OpR.pure rfl) ?_;refine OpsQ.yes (Want.bool rfl rfl rfl rfl (by rw[(eT c19)]; rfl)) rfl (OpR.pure rfl) ?_;refine OpsQ.yes (Want.bool rfl rfl rfl rfl (by rw[(eT c19)]; rfl)) rfl (OpR.sliceS hx20 rfl rfl rfl (BdM.some rfl) BdM.none) ?_;refine OpsQ.yes (Want.bool rfl rfl rfl rfl (by rw[(eT c19)]; rfl)) rfl (OpR.pure rfl) ?_;refine OpsQ.yes (Want.bool rfl rfl rfl rfl (by rw[(eT c19)]; rfl)) rfl (OpR.pure rfl) ?_;refine OpsQ.yes (Want.bool rfl rfl rfl rfl (by rw[(eT c19)]; rfl)) rfl (OpR.cast (OpR.pure rfl) (boolE (strEq _ _))) ?_;refine OpsQ.yes (Want.plain rfl) rfl (OpR.pickT rfl (eT c19) rfl) ?_;refine aB rfl rfl rfl ?_;exact OpsQ.nil
noncomputable def ref18_Holds (a0:ref08_Row) (a1:ref18_Test):Option Bool:=
 bnd (if a1.fCol≥0 then
 some (decide (a1.fCol<(a0.fCells.length:Int)))
else
 some false:Option Bool) fun t2=>
 bnd (if t2=true then
 bnd (idx a0.fCells a1.fCol) fun x6=>
 some (x6.fS,x6.fRaw,x6.fKept)
else
 some ([],[],false):Option ((List UInt8) × (List UInt8) × Bool)) fun t4=>
 if a1.fNot=true then
 bnd (ref18_plain t4.1 a1) fun x8=>
 some (!x8)
else
 bnd (ref18_plain t4.1 a1) fun x9=>
 some x9
theorem ref18_Holds_c {a0:ref08_Row} {a1:ref18_Test} {res:Bool} (h0:ref18_Holds a0 a1=some res):CallF X 45 [.agg [.sl 3 (List.map e_ref07_Cell a0.fCells),dN a0.fEnd,dT a0.fHidden],.agg [dN a1.fCol,dN a1.fOp,.val (.string (bs a1.fArg)),dT a1.fNot]] [] (fun x=>(dT res)) (fun x=>[]):=by
 unfold ref18_Holds at h0;refine CallF.mkG (X:=X) rfl Tryz.func45 rfl rfl Tryz.ntmps45 rfl rfl ?_;refine aS ?_;refine TL.op1 (OpR.boxImm rfl rfl) rfl ?_;refine TL.op1 (OpR.boxImm rfl rfl) rfl ?_;refine aA rfl rfl ?_;refine aN rfl ?_;refine aS ?_;refine TL.op1 (OpR.build rfl rfl rfl rfl rfl) rfl ?_;refine TL.op (OpR.alloc rfl rfl (fun _=>rfl)) rfl (fun p1=>?_);refine TL.op0 (OpR.store 0 rfl rfl rfl rfl rfl rfl rfl rfl) ?_;refine aN rfl ?_;refine T.seq ?_;refine T.seq ?_;obtain⟨t2,ht2,h0⟩:=bS h0;refine T.cutC (fun S'=>S'=⟨[(17,(dT t2)),(5,(dP (blk p1))),(4,(dT false)),(3,.nod [dN a1.fCol,dN a1.fOp,.val (.string (bs a1.fArg)),dT a1.fNot]),(2,.nod [.sl 3 (List.map e_ref07_Cell a0.fCells),dN a0.fEnd,dT a0.fHidden])],[.var (blk p1) [.val (.string (bs [])),.val (.string (bs [])),dT false] 151],35⟩) (fun _ h=>h) ?_ ?_
 ·refine T.region ?_;iterate 4 refine aA rfl rfl ?_
  rcases ite_some ht2 with ⟨c3,ht2⟩|⟨c3,ht2⟩;rotate_left
  ·refine TL.off rfl rfl rfl rfl (eF c3) rfl rfl ?_;refine TL.off rfl rfl rfl rfl (eF c3) rfl rfl ?_;refine TL.off rfl rfl rfl rfl (eF c3) rfl rfl ?_;refine TL.off rfl rfl rfl rfl (eF c3) rfl rfl ?_;refine TL.off rfl rfl rfl rfl (eF c3) rfl rfl ?_;refine TL.off rfl rfl rfl rfl (eF c3) rfl rfl ?_;refine TL.op1 (OpR.pickF rfl (eF c3) rfl) rfl ?_;refine TL.nil ?_;obtain rfl:=osi ht2;exact⟨_,Gst.only [2,3,4,5,17] rfl,rfl⟩
  refine TL.on rfl rfl rfl rfl (eT c3) ?_;refine aA rfl rfl ?_;refine TL.on rfl rfl rfl rfl (eT c3) ?_;refine aA rfl rfl ?_;refine TL.on rfl rfl rfl rfl (eT c3) ?_;refine aA rfl rfl ?_;refine TL.on rfl rfl rfl rfl (eT c3) ?_;refine aA rfl rfl ?_;refine TL.on rfl rfl rfl rfl (eT c3) ?_;refine TL.op1 (OpR.cast (OpR.pure rfl) (intE (lenM _ _))) rfl ?_;refine TL.on rfl rfl rfl rfl (eT c3) ?_;refine aA rfl rfl ?_;refine TL.op1 (OpR.pickT rfl (eT c3) rfl) rfl ?_;refine TL.nil ?_;obtain rfl:=osi ht2;exact⟨_,Gst.only [2,3,4,5,17] rfl,rfl⟩
 rintro _ rfl;show T X _ _ _;obtain⟨t4,ht4,h0⟩:=bS h0;refine T.cutC (fun S'=>S'=⟨[(5,(dP (blk p1))),(4,(dT false)),(3,.nod [dN a1.fCol,dN a1.fOp,.val (.string (bs a1.fArg)),dT a1.fNot])],[.var (blk p1) [.val (.string (bs t4.1)),.val (.string (bs t4.2.1)),dT t4.2.2] 151],35⟩) (fun _ h=>h) ?_ ?_
 ·rcases ite_some ht4 with ⟨c5,ht4⟩|⟨c5,ht4⟩;rotate_left
  ·refine T.condF rfl (eq_false_of_ne_true c5) ?_;refine T.skip ?_;obtain rfl:=osi ht4;exact⟨_,Gst.only [3,4,5] rfl,rfl⟩
  refine T.condT rfl (c5) ?_;refine T.region ?_;iterate 4 refine aA rfl rfl ?_
  obtain⟨x6,hx6,ht4⟩:=bS ht4;refine TL.op1 (OpR.indexM e_ref07_Cell hx6 rfl rfl rfl rfl rfl) rfl ?_;refine aA rfl rfl ?_;refine TL.op0 (OpR.store 0 rfl rfl rfl rfl rfl rfl rfl rfl) ?_;refine TL.nil ?_;obtain rfl:=osi ht4;exact⟨_,Gst.only [3,4,5] rfl,rfl⟩
 rintro _ rfl;show T X _ _ _;refine T.seq ?_;refine aS ?_;iterate 2 refine aA rfl rfl ?_
 refine aN rfl ?_;rcases ite_some h0 with ⟨c7,h0⟩|⟨c7,h0⟩
 ·refine T.condT rfl (c7) ?_;refine aS ?_;refine aA rfl rfl ?_;refine TL.op1 (OpR.loadPtr 0 rfl rfl rfl rfl) rfl ?_;refine aA rfl rfl ?_;obtain⟨x8,hx8,h0⟩:=bS h0;refine TL.op1 (OpR.call0 fn114 (ref18_plain_c hx8) rfl) rfl ?_;iterate 2 refine aA rfl rfl ?_
  refine aN rfl ?_;refine T.ret ?_;obtain rfl:=osi h0;exact rP [] [4] [] rfl rfl rfl undef (cT rfl ResL.nil) rfl rfl rfl rfl
 refine T.condF rfl (eq_false_of_ne_true c7) ?_;refine aK rfl ?_;refine aS ?_;refine aA rfl rfl ?_;refine TL.op1 (OpR.loadPtr 0 rfl rfl rfl rfl) rfl ?_;refine aA rfl rfl ?_;obtain⟨x9,hx9,h0⟩:=bS h0;refine TL.op1 (OpR.call0 fn114 (ref18_plain_c hx9) rfl) rfl ?_;refine aA rfl rfl ?_;refine aN rfl ?_;refine T.ret ?_;obtain rfl:=osi h0;exact rP [] [4] [] rfl rfl rfl undef (cT rfl ResL.nil) rfl rfl rfl rfl
noncomputable def ref18_Show.l1 (a1:List ref18_Test) (s4:Int):Option (Lp Int (Ex Unit (ref11_Grid × Int))):=
 if s4<(a1.length:Int) then
 bnd (idx a1 s4) fun x13=>
 bnd (ref18_Right x13) fun x15=>
 if x15=true then
 some (Lp.next (w64 (s4+1)))
else
 some (Lp.done (Ex.ret ((⟨[],false,0⟩:ref11_Grid),1)))
else
 some (Lp.done (Ex.brk ()))
noncomputable def ref18_Show.l2 (a1:List ref18_Test) (x29:ref08_Row) (s34:Bool × Int):Option (Lp (Bool × Int) Bool):=
 if s34.2<(a1.length:Int) then
 bnd (idx a1 s34.2) fun x43=>
 bnd (if s34.1=true then
 some true
else
 bnd (ref18_Holds x29 x43) fun x47=>
 some (!x47):Option Bool) fun t45=>
 some (Lp.next (t45,w64 (s34.2+1)))
else
 some (Lp.done s34.1)
noncomputable def ref18_Show.l3 (a0:ref11_Grid) (a1:List ref18_Test) (a2:Bool) (s20:Int × (List ref08_Row)):Option (Lp (Int × (List ref08_Row)) (List ref08_Row)):=
 if s20.1<(a0.fRows.length:Int) then
 bnd (idx a0.fRows s20.1) fun x29=>
 bnd (if a2=true then
 some x29.fHidden
else
 some false:Option Bool) fun t31=>
 bnd (loop (ref18_Show.l2 a1 x29) (t31,0):Option Bool) fun t33=>
 bnd (app 40 s20.2 [(⟨x29.fCells,x29.fEnd,t33⟩:ref08_Row)]) fun x48=>
 some (Lp.next (w64 (s20.1+1),x48))
else
 some (Lp.done s20.2)
noncomputable def ref18_Show (a0:ref11_Grid) (a1:List ref18_Test) (a2:Bool):Option (ref11_Grid × Int):=
 bnd (loop (ref18_Show.l1 a1) 0:Option (Ex Unit (ref11_Grid × Int))) fun t2=>match t2 with
| .brk u3=>
 bnd (loop (ref18_Show.l3 a0 a1 a2) (0,[]):Option (List ref08_Row)) fun t17=>
 bnd (ref11_With a0 t17) fun x50=>
 some ((⟨t17,x50.1,x50.2⟩:ref11_Grid),0)
| .ret u3=>some u3
theorem ref18_Show_c {a0:ref11_Grid} {a1:List ref18_Test} {a2:Bool} {res:ref11_Grid × Int} (h0:ref18_Show a0 a1 a2=some res):CallF X 52 [.agg [.sl 3 (List.map e_ref08_Row a0.fRows),dT a0.fTail,dN a0.fEnd],.sl 4 (List.map e_ref18_Test a1),dT a2] [] (fun x=>.tup [.agg [.sl 3 (List.map e_ref08_Row res.1.fRows),dT res.1.fTail,dN res.1.fEnd],dN res.2]) (fun x=>[]):=by
 unfold ref18_Show at h0;refine CallF.mkG (X:=X) rfl Tryz.func52 rfl rfl Tryz.ntmps52 rfl rfl ?_;refine aS ?_;refine TL.op1 (OpR.boxImm rfl rfl) rfl ?_;refine TL.op (OpR.alloc rfl rfl (fun _=>rfl)) rfl (fun p1=>?_);refine aA rfl rfl ?_;refine aN rfl ?_;refine T.seq ?_;refine aS ?_;refine aA rfl rfl ?_;refine TL.op1 (OpR.cast (OpR.pure rfl) (intE (lenM _ _))) rfl ?_;refine aA rfl rfl ?_;refine aN rfl ?_;obtain⟨t2,ht2,h0⟩:=bS h0;refine T.cutC (fun S'=>∃ u3,t2=Ex.brk u3∧S'=⟨[(7,(dN 0)),(6,(dP (blk p1))),(3,.nod [.sl 3 (List.map e_ref08_Row a0.fRows),dT a0.fTail,dN a0.fEnd]),(2,(dT a2)),(1,.sl 4 (List.map e_ref18_Test a1))],[.var (blk p1) [.val (.slice none 0 0),dT false,dN 0] 31],63⟩) (fun _ h=>h) ?_ ?_
 ·refine T.block ?_;obtain⟨n5,n10⟩:=loop_some ht2;refine T.loop (fun n S'=>∃ S'',Gst S' S''∧∃ s4:Int,S''=⟨[(18,(dN s4)),(17,(dN (a1.length:Int))),(16,.sl 4 (List.map e_ref18_Test a1)),(7,(dN 0)),(6,(dP (blk p1))),(3,.nod [.sl 3 (List.map e_ref08_Row a0.fRows),dT a0.fTail,dN a0.fEnd]),(2,(dT a2)),(1,.sl 4 (List.map e_ref18_Test a1))],[.var (blk p1) [.val (.slice none 0 0),dT false,dN 0] 31],63⟩∧iter (ref18_Show.l1 a1) n s4=some t2) n5 ?_ ?_
  ·exact⟨_,Gst.only [1,2,3,6,7,16,17,18] rfl,0,rfl,n10⟩
  rintro n5 _ ⟨_,g,s4,rfl,i9⟩;refine T.ghost g ?_;obtain⟨m6,q7,rfl,q8,i9⟩:=iter_succ i9;unfold ref18_Show.l1 at q8;refine aS ?_;refine aA rfl rfl ?_;refine aN rfl ?_;refine T.seq ?_;rcases ite_some q8 with ⟨c12,q8⟩|⟨c12,q8⟩;rotate_left
  ·refine T.condF rfl (eF c12) ?_;refine T.exit ?_;obtain rfl:=osi q8;obtain rfl:_=_:=i9;exact⟨_,Gst.only [1,2,3,6,7] rfl,_,rfl,rfl⟩
  refine T.condT rfl (eT c12) ?_;refine aK rfl ?_;refine T.seq ?_;refine T.block ?_;refine aS ?_;obtain⟨x13,hx13,q8⟩:=bS q8;refine TL.op1 (OpR.indexM e_ref18_Test hx13 rfl rfl rfl rfl rfl) rfl ?_;refine aA rfl rfl ?_;refine TL.op (OpR.alloc rfl rfl (fun _=>rfl)) rfl (fun p14=>?_);refine TL.op0 (OpR.store 1 rfl rfl rfl rfl rfl rfl rfl rfl) ?_;refine aN rfl ?_;refine aS ?_;refine TL.op1 (OpR.loadPtr 1 rfl rfl rfl rfl) rfl ?_;obtain⟨x15,hx15,q8⟩:=bS q8;refine TL.op1 (OpR.call0 fn35 (ref18_Right_c hx15) rfl) rfl ?_;refine aA rfl rfl ?_;refine aN rfl ?_;rcases ite_some q8 with ⟨c16,q8⟩|⟨c16,q8⟩
  ·refine T.condF rfl (not_t (c16)) ?_;refine aK rfl ?_;refine T.region ?_;iterate 2 refine aA rfl rfl ?_
   refine TL.nil ?_;obtain rfl:=osi q8;exact⟨m6,Nat.lt_succ_self _,_,gP [1,2,3,6,7,16,17,18] [0] rfl rfl rfl,w64 (s4+1),rfl,i9⟩
  refine T.condT rfl (not_f (eq_false_of_ne_true c16)) ?_;refine aS ?_;refine TL.op1 (OpR.build rfl rfl rfl rfl rfl) rfl ?_;refine TL.op0 (OpR.store 0 rfl rfl rfl rfl rfl rfl rfl rfl) ?_;refine aA rfl rfl ?_;refine aN rfl ?_;refine T.ret ?_;obtain rfl:=osi q8;obtain rfl:_=_:=i9;obtain rfl:=osi h0;exact PostG.retP (ks:=[]) (Gst.trans (Gst.only [6,7] rfl) (Gst.trans (Gst.denil (ReS.cons Re.refl (ReS.cons Re.refl ReS.nil)) (ReO.var (ReL.cons (Re.base .nil) (ReL.cons Re.refl (ReL.cons Re.refl ReL.nil))) (ReO.same ReO.nil))) (Gst.pick [0] rfl rfl))) undef (cV 0 rfl rfl rfl rfl (cT rfl ResL.nil)) rfl rfl rfl rfl
 rintro _ ⟨u3,rfl,rfl⟩;show T X _ _ _;refine aS ?_;refine aA rfl rfl ?_;refine aN rfl ?_;refine T.seq ?_;refine aS ?_;iterate 2 refine aA rfl rfl ?_
 refine TL.op1 (OpR.cast (OpR.pure rfl) (intE (lenM _ _))) rfl ?_;refine aA rfl rfl ?_;refine aN rfl ?_;obtain⟨t17,ht17,h0⟩:=bS h0;refine T.cutC (fun S'=>∃ y18:Value,S'=⟨[(10,.val y18),(7,(dN 0)),(6,(dP (blk p1))),(3,.nod [.sl 3 (List.map e_ref08_Row a0.fRows),dT a0.fTail,dN a0.fEnd])],[.var (blk p1) [.val (.slice none 0 0),dT false,dN 0] 31,.row y18 (List.map e_ref08_Row t17) 3 60],63⟩) (fun _ h=>h) ?_ ?_;rotate_left
 ·rintro _ ⟨y18,rfl⟩;show T X _ _ _;refine aS ?_;iterate 2 refine aA rfl rfl ?_
  obtain⟨x50,hx50,h0⟩:=bS h0;refine TL.op1 (OpR.call [1] fn122 (ref11_With_c hx50) rfl rfl rfl (fun _=>rfl)) rfl ?_;refine TL.op0 (OpR.store 0 rfl rfl rfl rfl rfl rfl rfl rfl) ?_;refine aA rfl rfl ?_;refine aN rfl ?_;refine T.ret ?_;obtain rfl:=osi h0;exact PostG.retP (ks:=[]) (Gst.trans (Gst.only [6,7] rfl) (Gst.trans (Gst.freezeRow 1 rfl rfl (ReS.cons Re.refl (ReS.cons Re.refl ReS.nil)) (ReO.var (ReL.cons (Re.base .all) (ReL.cons Re.refl (ReL.cons Re.refl ReL.nil))) (ReO.same ReO.nil))) (Gst.pick [0] rfl rfl))) undef (cV 0 rfl rfl rfl rfl (cT rfl ResL.nil)) rfl rfl rfl rfl
 refine T.block ?_;obtain⟨n21,n26⟩:=loop_some ht17;refine T.loop (fun n S'=>∃ S'',Gst S' S''∧∃ y19:Value,∃ s20:Int × (List ref08_Row),S''=⟨[(30,(dN s20.1)),(29,(dN (a0.fRows.length:Int))),(28,.sl 3 (List.map e_ref08_Row a0.fRows)),(10,.val y19),(7,(dN 0)),(6,(dP (blk p1))),(3,.nod [.sl 3 (List.map e_ref08_Row a0.fRows),dT a0.fTail,dN a0.fEnd]),(2,(dT a2)),(1,.sl 4 (List.map e_ref18_Test a1))],[.var (blk p1) [.val (.slice none 0 0),dT false,dN 0] 31,.row y19 (List.map e_ref08_Row s20.2) 3 60],63⟩∧iter (ref18_Show.l3 a0 a1 a2) n s20=some t17) n21 ?_ ?_
 ·exact⟨_,Gst.trans (Gst.only [1,2,3,6,7,10,28,29,30] rfl) (Gst.nilRow (ow:=[.var (blk p1) [.val (.slice none 0 0),dT false,dN 0] 31]) 3 60 rfl),(.slice none 0 0),(0,[]),rfl,n26⟩
 rintro n21 _ ⟨_,g,y19,s20,rfl,i25⟩;refine T.ghost g ?_;obtain⟨m22,q23,rfl,q24,i25⟩:=iter_succ i25;unfold ref18_Show.l3 at q24;refine aS ?_;refine aA rfl rfl ?_;refine aN rfl ?_;refine T.seq ?_;rcases ite_some q24 with ⟨c28,q24⟩|⟨c28,q24⟩;rotate_left
 ·refine T.condF rfl (eF c28) ?_;refine T.exit ?_;obtain rfl:=osi q24;obtain rfl:_=_:=i25;exact⟨_,Gst.only [3,6,7,10] rfl,y19,rfl⟩
 refine T.condT rfl (eT c28) ?_;refine aK rfl ?_;refine T.seq ?_;refine T.block ?_;refine aS ?_;obtain⟨x29,hx29,q24⟩:=bS q24;refine TL.op1 (OpR.indexM e_ref08_Row hx29 rfl rfl rfl rfl rfl) rfl ?_;refine aA rfl rfl ?_;refine TL.op (OpR.alloc rfl rfl (fun _=>rfl)) rfl (fun p30=>?_);refine TL.op0 (OpR.store 2 rfl rfl rfl rfl rfl rfl rfl rfl) ?_;refine aN rfl ?_;refine T.seq ?_;obtain⟨t31,ht31,q24⟩:=bS q24;refine T.cutC (fun S'=>S'=⟨[(30,(dN s20.1)),(29,(dN (a0.fRows.length:Int))),(28,.sl 3 (List.map e_ref08_Row a0.fRows)),(13,(dT t31)),(12,(dP (blk p30))),(10,.val y19),(7,(dN 0)),(6,(dP (blk p1))),(3,.nod [.sl 3 (List.map e_ref08_Row a0.fRows),dT a0.fTail,dN a0.fEnd]),(2,(dT a2)),(1,.sl 4 (List.map e_ref18_Test a1))],[.var (blk p1) [.val (.slice none 0 0),dT false,dN 0] 31,.row y19 (List.map e_ref08_Row s20.2) 3 60,.var (blk p30) [.sl 3 (List.map e_ref07_Cell x29.fCells),dN x29.fEnd,dT x29.fHidden] 60],63⟩) (fun _ h=>h) ?_ ?_
 ·refine T.region ?_;iterate 2 refine aA rfl rfl ?_
  rcases ite_some ht31 with ⟨c32,ht31⟩|⟨c32,ht31⟩;rotate_left
  ·refine TL.off rfl rfl rfl rfl (eq_false_of_ne_true c32) rfl rfl ?_;refine TL.off rfl rfl rfl rfl (eq_false_of_ne_true c32) rfl rfl ?_;refine TL.op1 (OpR.pickF rfl (eq_false_of_ne_true c32) rfl) rfl ?_;refine aA rfl rfl ?_;refine TL.nil ?_;obtain rfl:=osi ht31;exact⟨_,Gst.only [1,2,3,6,7,10,12,13,28,29,30] rfl,rfl⟩
  refine TL.on rfl rfl rfl rfl (c32) ?_;refine aA rfl rfl ?_;refine TL.on rfl rfl rfl rfl (c32) ?_;refine TL.op1 (OpR.loadPtr 2 rfl rfl rfl rfl) rfl ?_;refine TL.op1 (OpR.pickT rfl (c32) rfl) rfl ?_;refine aA rfl rfl ?_;refine TL.nil ?_;obtain rfl:=osi ht31;exact⟨_,Gst.only [1,2,3,6,7,10,12,13,28,29,30] rfl,rfl⟩
 rintro _ rfl;show T X _ _ _;refine T.seq ?_;refine aS ?_;refine aA rfl rfl ?_;refine TL.op1 (OpR.cast (OpR.pure rfl) (intE (lenM _ _))) rfl ?_;refine aA rfl rfl ?_;refine aN rfl ?_;obtain⟨t33,ht33,q24⟩:=bS q24;refine T.cutC (fun S'=>S'=⟨[(30,(dN s20.1)),(29,(dN (a0.fRows.length:Int))),(28,.sl 3 (List.map e_ref08_Row a0.fRows)),(13,(dT t33)),(12,(dP (blk p30))),(10,.val y19),(7,(dN 0)),(6,(dP (blk p1))),(3,.nod [.sl 3 (List.map e_ref08_Row a0.fRows),dT a0.fTail,dN a0.fEnd]),(2,(dT a2)),(1,.sl 4 (List.map e_ref18_Test a1))],[.var (blk p1) [.val (.slice none 0 0),dT false,dN 0] 31,.row y19 (List.map e_ref08_Row s20.2) 3 60,.var (blk p30) [.sl 3 (List.map e_ref07_Cell x29.fCells),dN x29.fEnd,dT x29.fHidden] 60],63⟩) (fun _ h=>h) ?_ ?_;rotate_left
 ·rintro _ rfl;show T X _ _ _;refine aS ?_;iterate 2 refine aA rfl rfl ?_
  refine TL.op0 (OpR.store 2 rfl rfl rfl rfl rfl rfl rfl rfl) ?_;refine aN rfl ?_;refine T.region ?_;refine aA rfl rfl ?_;refine TL.op1 (OpR.loadPtr 2 rfl rfl rfl rfl) rfl ?_;refine TL.op1 (OpR.lit rfl rfl rfl rfl rfl rfl rfl) rfl ?_;obtain⟨x48,hx48,q24⟩:=bS q24;refine TL.op (OpR.appendM (m:=[(⟨x29.fCells,x29.fEnd,t33⟩:ref08_Row)]) e_ref08_Row 1 hx48 rfl rfl rfl rfl rfl rfl rfl rfl rfl (fun _=>rfl)) rfl (fun v49=>?_);refine aA rfl rfl ?_;refine aN rfl ?_;refine T.region ?_;iterate 2 refine aA rfl rfl ?_
  refine TL.nil ?_;obtain rfl:=osi q24;exact⟨m22,Nat.lt_succ_self _,_,gP [1,2,3,6,7,10,28,29,30] [0,1] rfl rfl rfl,v49,(w64 (s20.1+1),x48),rfl,i25⟩
 refine T.block ?_;obtain⟨n35,n40⟩:=loop_some ht33;refine T.loop (fun n S'=>∃ S'',Gst S' S''∧∃ s34:Bool × Int,S''=⟨[(41,(dN s34.2)),(40,(dN (a1.length:Int))),(39,.sl 4 (List.map e_ref18_Test a1)),(30,(dN s20.1)),(29,(dN (a0.fRows.length:Int))),(28,.sl 3 (List.map e_ref08_Row a0.fRows)),(13,(dT s34.1)),(12,(dP (blk p30))),(10,.val y19),(7,(dN 0)),(6,(dP (blk p1))),(3,.nod [.sl 3 (List.map e_ref08_Row a0.fRows),dT a0.fTail,dN a0.fEnd]),(2,(dT a2)),(1,.sl 4 (List.map e_ref18_Test a1))],[.var (blk p1) [.val (.slice none 0 0),dT false,dN 0] 31,.row y19 (List.map e_ref08_Row s20.2) 3 60,.var (blk p30) [.sl 3 (List.map e_ref07_Cell x29.fCells),dN x29.fEnd,dT x29.fHidden] 60],63⟩∧iter (ref18_Show.l2 a1 x29) n s34=some t33) n35 ?_ ?_
 ·exact⟨_,Gst.only [1,2,3,6,7,10,12,13,28,29,30,39,40,41] rfl,(t31,0),rfl,n40⟩
 rintro n35 _ ⟨_,g,s34,rfl,i39⟩;refine T.ghost g ?_;obtain⟨m36,q37,rfl,q38,i39⟩:=iter_succ i39;unfold ref18_Show.l2 at q38;refine aS ?_;refine aA rfl rfl ?_;refine aN rfl ?_;refine T.seq ?_;rcases ite_some q38 with ⟨c42,q38⟩|⟨c42,q38⟩;rotate_left
 ·refine T.condF rfl (eF c42) ?_;refine T.exit ?_;obtain rfl:=osi q38;obtain rfl:_=_:=i39;exact⟨_,Gst.only [1,2,3,6,7,10,12,13,28,29,30] rfl,rfl⟩
 refine T.condT rfl (eT c42) ?_;refine aK rfl ?_;refine T.seq ?_;refine T.block ?_;refine aS ?_;obtain⟨x43,hx43,q38⟩:=bS q38;refine TL.op1 (OpR.indexM e_ref18_Test hx43 rfl rfl rfl rfl rfl) rfl ?_;refine aA rfl rfl ?_;refine TL.op (OpR.alloc rfl rfl (fun _=>rfl)) rfl (fun p44=>?_);refine TL.op0 (OpR.store 3 rfl rfl rfl rfl rfl rfl rfl rfl) ?_;refine aN rfl ?_;obtain⟨t45,ht45,q38⟩:=bS q38;refine T.cutC (fun S'=>S'=⟨[(41,(dN s34.2)),(40,(dN (a1.length:Int))),(39,.sl 4 (List.map e_ref18_Test a1)),(30,(dN s20.1)),(29,(dN (a0.fRows.length:Int))),(28,.sl 3 (List.map e_ref08_Row a0.fRows)),(13,(dT t45)),(12,(dP (blk p30))),(10,.val y19),(7,(dN 0)),(6,(dP (blk p1))),(3,.nod [.sl 3 (List.map e_ref08_Row a0.fRows),dT a0.fTail,dN a0.fEnd]),(2,(dT a2)),(1,.sl 4 (List.map e_ref18_Test a1))],[.var (blk p1) [.val (.slice none 0 0),dT false,dN 0] 31,.row y19 (List.map e_ref08_Row s20.2) 3 60,.var (blk p30) [.sl 3 (List.map e_ref07_Cell x29.fCells),dN x29.fEnd,dT x29.fHidden] 60],63⟩) (fun _ h=>h) ?_ ?_;rotate_left
 ·rintro _ rfl;show T X _ _ _;refine T.region ?_;iterate 2 refine aA rfl rfl ?_
  refine TL.nil ?_;obtain rfl:=osi q38;exact⟨m36,Nat.lt_succ_self _,_,Gst.only [1,2,3,6,7,10,12,13,28,29,30,39,40,41] rfl,(t45,w64 (s34.2+1)),rfl,i39⟩
 refine T.region ?_;iterate 2 refine aA rfl rfl ?_
 rcases ite_some ht45 with ⟨c46,ht45⟩|⟨c46,ht45⟩
 ·refine TL.off rfl rfl rfl rfl (c46) rfl rfl ?_;refine TL.off rfl rfl rfl rfl (c46) rfl rfl ?_;refine TL.off rfl rfl rfl rfl (c46) rfl rfl ?_;refine TL.off rfl rfl rfl rfl (c46) rfl rfl ?_;refine TL.op1 (OpR.pickT rfl (c46) rfl) rfl ?_;refine aA rfl rfl ?_;refine TL.nil ?_;obtain rfl:=osi ht45;exact⟨_,gP [1,2,3,6,7,10,12,13,28,29,30,39,40,41] [0,1,2] rfl rfl rfl,rfl⟩
 refine TL.on rfl rfl rfl rfl (eq_false_of_ne_true c46) ?_;refine TL.op1 (OpR.loadPtr 2 rfl rfl rfl rfl) rfl ?_;refine TL.on rfl rfl rfl rfl (eq_false_of_ne_true c46) ?_;refine TL.op1 (OpR.loadPtr 3 rfl rfl rfl rfl) rfl ?_;refine TL.on rfl rfl rfl rfl (eq_false_of_ne_true c46) ?_;obtain⟨x47,hx47,ht45⟩:=bS ht45;refine TL.op1 (OpR.call0 fn45 (ref18_Holds_c hx47) rfl) rfl ?_;refine TL.on rfl rfl rfl rfl (eq_false_of_ne_true c46) ?_;refine aA rfl rfl ?_;refine TL.op1 (OpR.pickF rfl (eq_false_of_ne_true c46) rfl) rfl ?_;refine aA rfl rfl ?_;refine TL.nil ?_;obtain rfl:=osi ht45;exact⟨_,gP [1,2,3,6,7,10,12,13,28,29,30,39,40,41] [0,1,2] rfl rfl rfl,rfl⟩
noncomputable def filter_Narrow_1 (a0:row_Row) (a1:List filter_Test) (a2:List UInt8):Option Bool:=
 bnd (if a0.fHidden=true then
 some true
else
 bnd (filter_all a0 a1 a2) fun x3=>
 some (!x3):Option Bool) fun t1=>
 some t1
theorem filter_Narrow_1_c {a0:row_Row} {a1:List filter_Test} {a2:List UInt8} {b0:Nat} {b1:Nat} {b2:Nat} {v3:Value} {res:Bool} (h0:filter_Narrow_1 a0 a1 a2=some res):CallF X 119 [.agg [.sl 5 (List.map e_cell_Cell a0.fCells),dN a0.fEnd,dT a0.fHidden],dP b0,dP b1] [.var b0 [dP b2] 28,.var b1 [.sl 4 (List.map e_filter_Test a1)] 88,.var b2 [.val v3] 264,.row v3 (lB a2) 1 5] (fun x=>(dT res)) (fun x=>[.var b0 [dP b2] 28,.var b1 [.sl 4 (List.map e_filter_Test a1)] 88,.var b2 [.val v3] 264,.row v3 (lB a2) 1 5]):=by
 unfold filter_Narrow_1 at h0;refine CallF.mkG (X:=X) rfl Tryz.func119 rfl rfl Tryz.ntmps119 rfl rfl ?_;refine aS ?_;refine TL.op1 (OpR.boxImm rfl rfl) rfl ?_;refine aA rfl rfl ?_;refine aN rfl ?_;refine T.seq ?_;obtain⟨t1,ht1,h0⟩:=bS h0;refine T.cutC (fun S'=>S'=⟨[(4,(dT t1))],[.var b0 [dP b2] 28,.var b1 [.sl 4 (List.map e_filter_Test a1)] 88,.var b2 [.val v3] 264,.row v3 (lB a2) 1 5],14⟩) (fun _ h=>h) ?_ ?_;rotate_left
 ·rintro _ rfl;show T X _ _ _;refine T.ret ?_;obtain rfl:=osi h0;exact rO [0,1,2,3] [4] rfl undef (cT rfl ResL.nil) rfl rfl rfl rfl
 refine T.region ?_;iterate 3 refine aA rfl rfl ?_
 rcases ite_some ht1 with ⟨c2,ht1⟩|⟨c2,ht1⟩
 ·refine TL.off rfl rfl rfl rfl (c2) rfl rfl ?_;refine TL.off rfl rfl rfl rfl (c2) rfl rfl ?_;refine TL.off rfl rfl rfl rfl (c2) rfl rfl ?_;refine TL.off rfl rfl rfl rfl (c2) rfl rfl ?_;refine TL.off rfl rfl rfl rfl (c2) rfl rfl ?_;refine TL.op1 (OpR.pickT rfl (c2) rfl) rfl ?_;refine aA rfl rfl ?_;refine TL.nil ?_;obtain rfl:=osi ht1;exact⟨_,Gst.only [4] rfl,rfl⟩
 refine TL.on rfl rfl rfl rfl (eq_false_of_ne_true c2) ?_;refine aA rfl rfl ?_;refine TL.on rfl rfl rfl rfl (eq_false_of_ne_true c2) ?_;refine TL.op1 (OpR.loadPtr 0 rfl rfl rfl rfl) rfl ?_;refine TL.on rfl rfl rfl rfl (eq_false_of_ne_true c2) ?_;refine TL.op1 (OpR.loadPtr 1 rfl rfl rfl rfl) rfl ?_;refine TL.on rfl rfl rfl rfl (eq_false_of_ne_true c2) ?_;obtain⟨x3,hx3,ht1⟩:=bS ht1;refine TL.op1 (OpR.call [2,3] fn118 (filter_all_c hx3) rfl rfl rfl (fun _=>rfl)) rfl ?_;refine TL.on rfl rfl rfl rfl (eq_false_of_ne_true c2) ?_;refine aA rfl rfl ?_;refine TL.op1 (OpR.pickF rfl (eq_false_of_ne_true c2) rfl) rfl ?_;refine aA rfl rfl ?_;refine TL.nil ?_;obtain rfl:=osi ht1;exact⟨_,Gst.only [4] rfl,rfl⟩
noncomputable def filter_hide_1_4 (a0:Int) (a1:row_Row) (a2:List filter_Test) (a3:List UInt8):Option row_Row:=
 bnd (filter_Narrow_1 a1 a2 a3) fun x3=>
 bnd (row_Row_Hide a1 x3) fun x4=>
 some x4
theorem filter_hide_1_4_c {a0:Int} {a1:row_Row} {a2:List filter_Test} {a3:List UInt8} {b0:Nat} {b1:Nat} {b2:Nat} {b3:Nat} {v4:Value} {res:row_Row} (h0:filter_hide_1_4 a0 a1 a2 a3=some res):CallF X 185 [dN a0,.agg [.sl 5 (List.map e_cell_Cell a1.fCells),dN a1.fEnd,dT a1.fHidden],dP b0] [.var b0 [.fn (.func 119) [] [dP b1,dP b2]] 130,.var b1 [dP b3] 28,.var b2 [.sl 4 (List.map e_filter_Test a2)] 88,.var b3 [.val v4] 264,.row v4 (lB a3) 1 5] (fun x=>.agg [.sl 5 (List.map e_cell_Cell res.fCells),dN res.fEnd,dT res.fHidden]) (fun x=>[.var b0 [.fn (.func 119) [] [dP b1,dP b2]] 130,.var b1 [dP b3] 28,.var b2 [.sl 4 (List.map e_filter_Test a2)] 88,.var b3 [.val v4] 264,.row v4 (lB a3) 1 5]):=by
 unfold filter_hide_1_4 at h0;refine CallF.mkG (X:=X) rfl Tryz.func185 rfl rfl Tryz.ntmps185 rfl rfl ?_;refine aS ?_;refine TL.op1 (OpR.boxImm rfl rfl) rfl ?_;refine TL.op (OpR.alloc rfl rfl (fun _=>rfl)) rfl (fun p1=>?_);refine aN rfl ?_;refine T.seq ?_;obtain⟨x3,hx3,h0⟩:=bS h0;obtain⟨x4,hx4,h0⟩:=bS h0;refine T.drawS drawsX (fun env2=>[.agg [.sl 5 (List.map e_cell_Cell a1.fCells),dN a1.fEnd,dT a1.fHidden],.fn (.func 119) [] [dP b1,dP b2],.agg [.sl 5 (List.map e_cell_Cell a1.fCells),dN a1.fEnd,dT a1.fHidden],dT x3,.agg [.sl 5 (List.map e_cell_Cell x4.fCells),dN x4.fEnd,dT x4.fHidden],.dead]) (fun D env2=>[.var b0 [.fn (.func 119) [] [dP b1,dP b2]] 130,.var b1 [dP b3] 28,.var b2 [.sl 4 (List.map e_filter_Test a2)] 88,.var b3 [.val v4] 264,.row v4 (lB a3) 1 5,(bif D 5 then .var (blk p1) [.sl 5 (List.map e_cell_Cell x4.fCells),dN x4.fEnd,dT x4.fHidden] 49 else .var (blk p1) [.val (.slice none 0 0),dN 0,dT false] 49)]) [0,0,0,6,15,31] [5] _ (by decide +kernel) (by decide +kernel) (fun _=>rfl) (fun _=>rfl) ?_ (fun _=>rfl) (fun _=>rfl) ?_;rotate_left
 ·intro env2;show T X _ _ _;refine T.ret ?_;obtain rfl:=osi h0;exact rO [0,1,2,3,4] [5] rfl undef (cV 5 rfl rfl rfl rfl ResL.nil) rfl rfl rfl rfl
 refine aC ?_;refine oT (.fn (.func 119) [] [dP b1,dP b2]) (fun _ _=>OpR.loadPtr 0 rfl rfl rfl rfl) ?_;refine aC ?_;refine OpsS.cons' true ?_ (fun _ _ _ _ _ _ _=>rfl) ?_
 ·intro D env2 hA;have e5:D 5=false:=hA.no 5 _ rfl rfl;exact OpS.yp [(5,false)] ⟨e5,trivial⟩ (Want.plain rfl) (OpR.callV [1,2,3,4] rfl fn119 (filter_Narrow_1_c hx3) rfl rfl rfl (fun _=>rfl)) (fun x=>rfl) (fun x=>rfl)
 refine oT (.agg [.sl 5 (List.map e_cell_Cell x4.fCells),dN x4.fEnd,dT x4.fHidden]) (fun _ _=>OpR.call0 fn121 (row_Row_Hide_c hx4) rfl) ?_;refine OpsS.cons' true ?_ (fun _ _ _ _ _ _ _=>rfl) ?_
 ·intro D env2 hA;exact OpS.yp [(5,false)] ⟨hA.me,trivial⟩ (Want.plain rfl) (OpR.store 5 rfl rfl rfl rfl rfl rfl rfl rfl) (fun x=>rfl) (fun x=>rfl)
 exact trivial
noncomputable def walk_Map_row_Row_4.l1 (a1:List filter_Test) (a2:List UInt8) (x3:(List row_Row)) (s6:Int × (List row_Row)):Option (Lp (Int × (List row_Row)) (List row_Row)):=
 if s6.1<(x3.length:Int) then
 bnd (idx s6.2 s6.1) fun x15=>
 bnd (filter_hide_1_4 s6.1 x15 a1 a2) fun x17=>
 some (Lp.next (w64 (s6.1+1),(s6.2.set s6.1.toNat x17)))
else
 some (Lp.done s6.2)
noncomputable def walk_Map_row_Row_4 (a0:tTr) (a1:List filter_Test) (a2:List UInt8):Option tTr:=
 bnd (walk_All_row_Row a0) fun x2=>
 bnd (slices_Clone_row_Row_row_Row x2) fun x3=>
 bnd (loop (walk_Map_row_Row_4.l1 a1 a2 x3) (0,x3):Option (List row_Row)) fun t5=>
 bnd (tree_Of_row_Row t5) fun x18=>
 some x18
theorem walk_Map_row_Row_4_c {a0:tTr} {a1:List filter_Test} {a2:List UInt8} {b0:Nat} {b1:Nat} {b2:Nat} {b3:Nat} {v4:Value} {res:tTr} (h0:walk_Map_row_Row_4 a0 a1 a2=some res):CallF X 137 [.agg [(eOP a0.fRoot)],.fn (.func 185) [] [dP b0]] [.var b0 [.fn (.func 119) [] [dP b1,dP b2]] 130,.var b1 [dP b3] 28,.var b2 [.sl 4 (List.map e_filter_Test a1)] 88,.var b3 [.val v4] 264,.row v4 (lB a2) 1 5] (fun x=>.agg [(eOP res.fRoot)]) (fun x=>[.var b0 [.fn (.func 119) [] [dP b1,dP b2]] 130,.var b1 [dP b3] 28,.var b2 [.sl 4 (List.map e_filter_Test a1)] 88,.var b3 [.val v4] 264,.row v4 (lB a2) 1 5]):=by
 unfold walk_Map_row_Row_4 at h0;refine CallF.mkG (X:=X) rfl Tryz.func137 rfl rfl Tryz.ntmps137 rfl rfl ?_;refine aS ?_;refine TL.op1 (OpR.boxImm rfl rfl) rfl ?_;refine TL.op (OpR.alloc rfl rfl (fun _=>rfl)) rfl (fun p1=>?_);refine aN rfl ?_;refine aS ?_;refine aA rfl rfl ?_;obtain⟨x2,hx2,h0⟩:=bS h0;refine TL.op1 (OpR.call0 fn100 (walk_All_row_Row_c hx2) rfl) rfl ?_;obtain⟨x3,hx3,h0⟩:=bS h0;refine TL.op (OpR.call [] fn191 (slices_Clone_row_Row_row_Row_c hx3) rfl rfl rfl (fun _=>rfl)) rfl (fun w4=>?_);refine aA rfl rfl ?_;refine aN rfl ?_;refine T.seq ?_;refine aS ?_;refine aA rfl rfl ?_;refine TL.op1 (OpR.rowLenM e_row_Row 6 rfl rfl rfl rfl) rfl ?_;refine aA rfl rfl ?_;refine aN rfl ?_;obtain⟨t5,ht5,h0⟩:=bS h0;refine T.cutC (fun S'=>S'=⟨[(5,.val (vn w4 0)),(4,(dP (blk p1)))],[.var b0 [.fn (.func 119) [] [dP b1,dP b2]] 130,.var b1 [dP b3] 28,.var b2 [.sl 4 (List.map e_filter_Test a1)] 88,.var b3 [.val v4] 264,.row v4 (lB a2) 1 5,.var (blk p1) [(eOP none)] 25,.row (vn w4 0) (List.map e_row_Row t5) 3 49],28⟩) (fun _ h=>h) ?_ ?_;rotate_left
 ·rintro _ rfl;show T X _ _ _;refine aS ?_;refine aA rfl rfl ?_;refine TL.ghost (Gst.freezeRow 6 rfl rfl (ReS.cons (Re.base .all) (ReS.refl _)) (ReO.same (ReO.same (ReO.same (ReO.same (ReO.same (ReO.same (ReO.same ReO.nil)))))))) ?_;obtain⟨x18,hx18,h0⟩:=bS h0;refine TL.op1 (OpR.call0 fn101 (tree_Of_row_Row_c hx18) rfl) rfl ?_;refine TL.op0 (OpR.store 5 rfl rfl rfl rfl rfl rfl rfl rfl) ?_;refine aN rfl ?_;refine T.ret ?_;obtain rfl:=osi h0;exact rP [0,1,2,3,4] [4] [0,1,2,3,4,5] rfl rfl rfl undef (cV 5 rfl rfl rfl rfl ResL.nil) rfl rfl rfl rfl
 refine T.block ?_;obtain⟨n7,n12⟩:=loop_some ht5;refine T.loop (fun n S'=>∃ S'',Gst S' S''∧∃ s6:Int × (List row_Row),S''=⟨[(13,(dN s6.1)),(12,(dN (x3.length:Int))),(11,.val (vn w4 0)),(5,.val (vn w4 0)),(4,(dP (blk p1))),(1,.fn (.func 185) [] [dP b0])],[.var b0 [.fn (.func 119) [] [dP b1,dP b2]] 130,.var b1 [dP b3] 28,.var b2 [.sl 4 (List.map e_filter_Test a1)] 88,.var b3 [.val v4] 264,.row v4 (lB a2) 1 5,.var (blk p1) [(eOP none)] 25,.row (vn w4 0) (List.map e_row_Row s6.2) 3 49],28⟩∧iter (walk_Map_row_Row_4.l1 a1 a2 x3) n s6=some t5) n7 ?_ ?_
 ·exact⟨_,Gst.only [1,4,5,11,12,13] rfl,(0,x3),rfl,n12⟩
 rintro n7 _ ⟨_,g,s6,rfl,i11⟩;refine T.ghost g ?_;obtain⟨m8,q9,rfl,q10,i11⟩:=iter_succ i11;unfold walk_Map_row_Row_4.l1 at q10;refine aS ?_;refine aA rfl rfl ?_;refine aN rfl ?_;refine T.seq ?_;rcases ite_some q10 with ⟨c14,q10⟩|⟨c14,q10⟩;rotate_left
 ·refine T.condF rfl (eF c14) ?_;refine T.exit ?_;obtain rfl:=osi q10;obtain rfl:_=_:=i11;exact⟨_,Gst.only [4,5] rfl,rfl⟩
 refine T.condT rfl (eT c14) ?_;refine aK rfl ?_;refine T.seq ?_;refine T.block ?_;refine aS ?_;refine aA rfl rfl ?_;obtain⟨x15,hx15,q10⟩:=bS q10;refine TL.op1 (OpR.rowIndexM e_row_Row 6 hx15 rfl rfl rfl rfl rfl rfl rfl) rfl ?_;refine TL.op1 (OpR.rowLoad0M (j:=s6.1) e_row_Row 6 hx15 rfl rfl rfl rfl) rfl ?_;refine TL.op (OpR.alloc rfl rfl (fun _=>rfl)) rfl (fun p16=>?_);refine aA rfl rfl ?_;refine TL.op0 (OpR.store 7 rfl rfl rfl rfl rfl rfl rfl rfl) ?_;refine aN rfl ?_;refine T.region ?_;iterate 4 refine aA rfl rfl ?_
 refine TL.op1 (OpR.loadPtr 7 rfl rfl rfl rfl) rfl ?_;obtain⟨x17,hx17,q10⟩:=bS q10;refine TL.op1 (OpR.callV [0,1,2,3,4] rfl fn185 (filter_hide_1_4_c hx17) rfl rfl rfl (fun _=>rfl)) rfl ?_;refine TL.op1 (OpR.rowIndexM e_row_Row 6 hx15 rfl rfl rfl rfl rfl rfl rfl) rfl ?_;refine TL.op0 (OpR.rowStore0M (j:=s6.1) e_row_Row x17 6 hx15 rfl rfl rfl rfl rfl rfl rfl rfl rfl) ?_;refine aN rfl ?_;refine T.region ?_;iterate 2 refine aA rfl rfl ?_
 refine TL.nil ?_;obtain rfl:=osi q10;exact⟨m8,Nat.lt_succ_self _,_,gP [1,4,5,11,12,13] [0,1,2,3,4,5,6] rfl rfl rfl,(w64 (s6.1+1),(s6.2.set s6.1.toNat x17)),rfl,i11⟩
noncomputable def filter_hide_4 (a0:grid_Grid) (a1:List filter_Test) (a2:List UInt8):Option grid_Grid:=
 bnd (walk_Map_row_Row_4 a0.fRows a1 a2) fun x4=>
 some (⟨x4,a0.fTail,a0.fEnd⟩:grid_Grid)
theorem filter_hide_4_c {a0:grid_Grid} {a1:List filter_Test} {a2:List UInt8} {b0:Nat} {b1:Nat} {b2:Nat} {v3:Value} {res:grid_Grid} (h0:filter_hide_4 a0 a1 a2=some res):CallF X 116 [.agg [(eOP a0.fRows.fRoot),dT a0.fTail,dN a0.fEnd],.fn (.func 119) [] [dP b0,dP b1]] [.var b0 [dP b2] 28,.var b1 [.sl 4 (List.map e_filter_Test a1)] 88,.var b2 [.val v3] 264,.row v3 (lB a2) 1 5] (fun x=>.agg [(eOP res.fRows.fRoot),dT res.fTail,dN res.fEnd]) (fun x=>[.var b0 [dP b2] 28,.var b1 [.sl 4 (List.map e_filter_Test a1)] 88,.var b2 [.val v3] 264,.row v3 (lB a2) 1 5]):=by
 unfold filter_hide_4 at h0;refine CallF.mkG (X:=X) rfl Tryz.func116 rfl rfl Tryz.ntmps116 rfl rfl ?_;refine aS ?_;refine TL.op (OpR.boxVar rfl rfl (fun _=>rfl)) rfl (fun p1=>?_);refine TL.op (OpR.boxVar rfl rfl (fun _=>rfl)) rfl (fun p2=>?_);refine TL.op (OpR.alloc rfl rfl (fun _=>rfl)) rfl (fun p3=>?_);refine aN rfl ?_;refine aS ?_;refine aA rfl rfl ?_;refine TL.op1 (OpR.loadPtr 4 rfl rfl rfl rfl) rfl ?_;refine aA rfl rfl ?_;obtain⟨x4,hx4,h0⟩:=bS h0;refine TL.op1 (OpR.call [5,0,1,2,3] fn137 (walk_Map_row_Row_4_c hx4) rfl rfl rfl (fun _=>rfl)) rfl ?_;refine aA rfl rfl ?_;refine TL.op0 (OpR.store 4 rfl rfl rfl rfl rfl rfl rfl rfl) ?_;refine aN rfl ?_;refine aS ?_;refine TL.op1 (OpR.loadPtr 4 rfl rfl rfl rfl) rfl ?_;refine TL.op0 (OpR.store 6 rfl rfl rfl rfl rfl rfl rfl rfl) ?_;refine aN rfl ?_;refine T.ret ?_;obtain rfl:=osi h0;exact rP [0,1,2,3] [4] [0,1,2,3,6] rfl rfl rfl undef (cV 4 rfl rfl rfl rfl ResL.nil) rfl rfl rfl rfl
noncomputable def filter_Narrow (a0:grid_Grid) (a1:List filter_Test) (a2:List UInt8):Option (grid_Grid × Int):=
 bnd (filter_wrong a1) fun x4=>
 if x4=true then
 some ((⟨(⟨none⟩:tTr),false,0⟩:grid_Grid),1)
else
 bnd (filter_hide_4 a0 a1 a2) fun x6=>
 some (x6,0)
theorem filter_Narrow_c {a0:grid_Grid} {a1:List filter_Test} {a2:List UInt8} {b0:Nat} {v1:Value} {res:grid_Grid × Int} (h0:filter_Narrow a0 a1 a2=some res):CallF X 48 [.agg [(eOP a0.fRows.fRoot),dT a0.fTail,dN a0.fEnd],dP b0,.sl 4 (List.map e_filter_Test a1)] [.var b0 [.val v1] 264,.row v1 (lB a2) 1 5] (fun x=>.tup [.agg [(eOP res.1.fRows.fRoot),dT res.1.fTail,dN res.1.fEnd],dN res.2]) (fun x=>[.var b0 [.val v1] 264,.row v1 (lB a2) 1 5]):=by
 unfold filter_Narrow at h0;refine CallF.mkG (X:=X) rfl Tryz.func48 rfl rfl Tryz.ntmps48 rfl rfl ?_;refine aS ?_;refine TL.op1 (OpR.boxImm rfl rfl) rfl ?_;refine TL.op (OpR.boxVar rfl rfl (fun _=>rfl)) rfl (fun p1=>?_);refine TL.op (OpR.boxVar rfl rfl (fun _=>rfl)) rfl (fun p2=>?_);refine TL.op (OpR.alloc rfl rfl (fun _=>rfl)) rfl (fun p3=>?_);refine aA rfl rfl ?_;refine aN rfl ?_;refine T.seq ?_;refine aS ?_;refine TL.op1 (OpR.loadPtr 3 rfl rfl rfl rfl) rfl ?_;obtain⟨x4,hx4,h0⟩:=bS h0;refine TL.op1 (OpR.call0 fn115 (filter_wrong_c hx4) rfl) rfl ?_;refine aN rfl ?_;rcases ite_some h0 with ⟨c5,h0⟩|⟨c5,h0⟩
 ·refine T.condT rfl (c5) ?_;refine aS ?_;refine TL.op1 (OpR.build rfl rfl rfl rfl rfl) rfl ?_;refine TL.op0 (OpR.store 4 rfl rfl rfl rfl rfl rfl rfl rfl) ?_;refine aA rfl rfl ?_;refine aN rfl ?_;refine T.ret ?_;obtain rfl:=osi h0;exact rP [0,1] [6,7] [0,1,4] rfl rfl rfl undef (cV 2 rfl rfl rfl rfl (cT rfl ResL.nil)) rfl rfl rfl rfl
 refine T.condF rfl (eq_false_of_ne_true c5) ?_;refine aK rfl ?_;refine aS ?_;iterate 2 refine aA rfl rfl ?_
 obtain⟨x6,hx6,h0⟩:=bS h0;refine TL.op1 (OpR.call [2,3,0,1] fn116 (filter_hide_4_c hx6) rfl rfl rfl (fun _=>rfl)) rfl ?_;refine TL.op0 (OpR.store 4 rfl rfl rfl rfl rfl rfl rfl rfl) ?_;refine aA rfl rfl ?_;refine aN rfl ?_;refine T.ret ?_;obtain rfl:=osi h0;exact rP [0,1] [6,7] [0,1,4] rfl rfl rfl undef (cV 2 rfl rfl rfl rfl (cT rfl ResL.nil)) rfl rfl rfl rfl
noncomputable def ref18_Show_2.l1 (s3:Unit):Option (Lp Unit Unit):=
 some (Lp.done ())
noncomputable def ref18_Show_2.l2 (s28:Unit):Option (Lp Unit Unit):=
 some (Lp.done ())
noncomputable def ref18_Show_2.l3 (a0:ref11_Grid) (a1:Bool) (s14:Int × (List ref08_Row)):Option (Lp (Int × (List ref08_Row)) (List ref08_Row)):=
 if s14.1<(a0.fRows.length:Int) then
 bnd (idx a0.fRows s14.1) fun x23=>
 bnd (if a1=true then
 some x23.fHidden
else
 some false:Option Bool) fun t25=>
 bnd (loop ref18_Show_2.l2 ():Option Unit) fun t27=>
 bnd (app 40 s14.2 [(⟨x23.fCells,x23.fEnd,t25⟩:ref08_Row)]) fun x36=>
 some (Lp.next (w64 (s14.1+1),x36))
else
 some (Lp.done s14.2)
noncomputable def ref18_Show_2 (a0:ref11_Grid) (a1:Bool):Option (ref11_Grid × Int):=
 bnd (loop ref18_Show_2.l1 ():Option Unit) fun t2=>
 bnd (loop (ref18_Show_2.l3 a0 a1) (0,[]):Option (List ref08_Row)) fun t11=>
 bnd (ref11_With a0 t11) fun x38=>
 some ((⟨t11,x38.1,x38.2⟩:ref11_Grid),0)
theorem ref18_Show_2_c {a0:ref11_Grid} {a1:Bool} {res:ref11_Grid × Int} (h0:ref18_Show_2 a0 a1=some res):CallF X 52 [.agg [.sl 3 (List.map e_ref08_Row a0.fRows),dT a0.fTail,dN a0.fEnd],.val (.slice none 0 0),dT a1] [] (fun x=>.tup [.agg [.sl 3 (List.map e_ref08_Row res.1.fRows),dT res.1.fTail,dN res.1.fEnd],dN res.2]) (fun x=>[]):=by
 unfold ref18_Show_2 at h0;refine CallF.mkG (X:=X) rfl Tryz.func52 rfl rfl Tryz.ntmps52 rfl rfl ?_;refine aS ?_;refine TL.op1 (OpR.boxImm rfl rfl) rfl ?_;refine TL.op (OpR.alloc rfl rfl (fun _=>rfl)) rfl (fun p1=>?_);refine aA rfl rfl ?_;refine aN rfl ?_;refine T.seq ?_;refine aS ?_;iterate 3 refine aA rfl rfl ?_
 refine aN rfl ?_;obtain⟨t2,ht2,h0⟩:=bS h0;refine T.cutC (fun S'=>S'=⟨[(7,(dN 0)),(6,(dP (blk p1))),(3,.nod [.sl 3 (List.map e_ref08_Row a0.fRows),dT a0.fTail,dN a0.fEnd]),(2,(dT a1)),(1,.val (.slice none 0 0))],[.var (blk p1) [.val (.slice none 0 0),dT false,dN 0] 31],63⟩) (fun _ h=>h) ?_ ?_
 ·refine T.block ?_;obtain⟨n4,n9⟩:=loop_some ht2;refine T.loop (fun n S'=>∃ S'',Gst S' S''∧∃ s3:Unit,S''=⟨[(18,(dN 0)),(17,(dN 0)),(16,.val (.slice none 0 0)),(7,(dN 0)),(6,(dP (blk p1))),(3,.nod [.sl 3 (List.map e_ref08_Row a0.fRows),dT a0.fTail,dN a0.fEnd]),(2,(dT a1)),(1,.val (.slice none 0 0))],[.var (blk p1) [.val (.slice none 0 0),dT false,dN 0] 31],63⟩∧iter ref18_Show_2.l1 n s3=some t2) n4 ?_ ?_
  ·exact⟨_,Gst.only [1,2,3,6,7,16,17,18] rfl,(),rfl,n9⟩
  rintro n4 _ ⟨_,g,s3,rfl,i8⟩;refine T.ghost g ?_;obtain⟨m5,q6,rfl,q7,i8⟩:=iter_succ i8;unfold ref18_Show_2.l1 at q7;refine aS ?_;refine TL.op1 (OpR.cast (OpR.pure rfl) (boolE (show (decide ((0:Int)<0))=false by decide))) rfl ?_;refine aN rfl ?_;refine T.seq ?_;refine T.condF rfl rfl ?_;refine T.exit ?_;obtain rfl:=osi q7;obtain rfl:_=_:=i8;exact⟨_,Gst.only [1,2,3,6,7] rfl,rfl⟩
 rintro _ rfl;show T X _ _ _;refine aS ?_;refine aA rfl rfl ?_;refine aN rfl ?_;refine T.seq ?_;refine aS ?_;iterate 2 refine aA rfl rfl ?_
 refine TL.op1 (OpR.cast (OpR.pure rfl) (intE (lenM _ _))) rfl ?_;refine aA rfl rfl ?_;refine aN rfl ?_;obtain⟨t11,ht11,h0⟩:=bS h0;refine T.cutC (fun S'=>∃ y12:Value,S'=⟨[(10,.val y12),(7,(dN 0)),(6,(dP (blk p1))),(3,.nod [.sl 3 (List.map e_ref08_Row a0.fRows),dT a0.fTail,dN a0.fEnd])],[.var (blk p1) [.val (.slice none 0 0),dT false,dN 0] 31,.row y12 (List.map e_ref08_Row t11) 3 60],63⟩) (fun _ h=>h) ?_ ?_;rotate_left
 ·rintro _ ⟨y12,rfl⟩;show T X _ _ _;refine aS ?_;iterate 2 refine aA rfl rfl ?_
  obtain⟨x38,hx38,h0⟩:=bS h0;refine TL.op1 (OpR.call [1] fn122 (ref11_With_c hx38) rfl rfl rfl (fun _=>rfl)) rfl ?_;refine TL.op0 (OpR.store 0 rfl rfl rfl rfl rfl rfl rfl rfl) ?_;refine aA rfl rfl ?_;refine aN rfl ?_;refine T.ret ?_;obtain rfl:=osi h0;exact PostG.retP (ks:=[]) (Gst.trans (Gst.only [6,7] rfl) (Gst.trans (Gst.freezeRow 1 rfl rfl (ReS.cons Re.refl (ReS.cons Re.refl ReS.nil)) (ReO.var (ReL.cons (Re.base .all) (ReL.cons Re.refl (ReL.cons Re.refl ReL.nil))) (ReO.same ReO.nil))) (Gst.pick [0] rfl rfl))) undef (cV 0 rfl rfl rfl rfl (cT rfl ResL.nil)) rfl rfl rfl rfl
 refine T.block ?_;obtain⟨n15,n20⟩:=loop_some ht11;refine T.loop (fun n S'=>∃ S'',Gst S' S''∧∃ y13:Value,∃ s14:Int × (List ref08_Row),S''=⟨[(30,(dN s14.1)),(29,(dN (a0.fRows.length:Int))),(28,.sl 3 (List.map e_ref08_Row a0.fRows)),(10,.val y13),(7,(dN 0)),(6,(dP (blk p1))),(3,.nod [.sl 3 (List.map e_ref08_Row a0.fRows),dT a0.fTail,dN a0.fEnd]),(2,(dT a1)),(1,.val (.slice none 0 0))],[.var (blk p1) [.val (.slice none 0 0),dT false,dN 0] 31,.row y13 (List.map e_ref08_Row s14.2) 3 60],63⟩∧iter (ref18_Show_2.l3 a0 a1) n s14=some t11) n15 ?_ ?_
 ·exact⟨_,Gst.trans (Gst.only [1,2,3,6,7,10,28,29,30] rfl) (Gst.nilRow (ow:=[.var (blk p1) [.val (.slice none 0 0),dT false,dN 0] 31]) 3 60 rfl),(.slice none 0 0),(0,[]),rfl,n20⟩
 rintro n15 _ ⟨_,g,y13,s14,rfl,i19⟩;refine T.ghost g ?_;obtain⟨m16,q17,rfl,q18,i19⟩:=iter_succ i19;unfold ref18_Show_2.l3 at q18;refine aS ?_;refine aA rfl rfl ?_;refine aN rfl ?_;refine T.seq ?_;rcases ite_some q18 with ⟨c22,q18⟩|⟨c22,q18⟩;rotate_left
 ·refine T.condF rfl (eF c22) ?_;refine T.exit ?_;obtain rfl:=osi q18;obtain rfl:_=_:=i19;exact⟨_,Gst.only [3,6,7,10] rfl,y13,rfl⟩
 refine T.condT rfl (eT c22) ?_;refine aK rfl ?_;refine T.seq ?_;refine T.block ?_;refine aS ?_;obtain⟨x23,hx23,q18⟩:=bS q18;refine TL.op1 (OpR.indexM e_ref08_Row hx23 rfl rfl rfl rfl rfl) rfl ?_;refine aA rfl rfl ?_;refine TL.op (OpR.alloc rfl rfl (fun _=>rfl)) rfl (fun p24=>?_);refine TL.op0 (OpR.store 2 rfl rfl rfl rfl rfl rfl rfl rfl) ?_;refine aN rfl ?_;refine T.seq ?_;obtain⟨t25,ht25,q18⟩:=bS q18;refine T.cutC (fun S'=>S'=⟨[(30,(dN s14.1)),(29,(dN (a0.fRows.length:Int))),(28,.sl 3 (List.map e_ref08_Row a0.fRows)),(13,(dT t25)),(12,(dP (blk p24))),(10,.val y13),(7,(dN 0)),(6,(dP (blk p1))),(3,.nod [.sl 3 (List.map e_ref08_Row a0.fRows),dT a0.fTail,dN a0.fEnd]),(2,(dT a1)),(1,.val (.slice none 0 0))],[.var (blk p1) [.val (.slice none 0 0),dT false,dN 0] 31,.row y13 (List.map e_ref08_Row s14.2) 3 60,.var (blk p24) [.sl 3 (List.map e_ref07_Cell x23.fCells),dN x23.fEnd,dT x23.fHidden] 60],63⟩) (fun _ h=>h) ?_ ?_
 ·refine T.region ?_;iterate 2 refine aA rfl rfl ?_
  rcases ite_some ht25 with ⟨c26,ht25⟩|⟨c26,ht25⟩;rotate_left
  ·refine TL.off rfl rfl rfl rfl (eq_false_of_ne_true c26) rfl rfl ?_;refine TL.off rfl rfl rfl rfl (eq_false_of_ne_true c26) rfl rfl ?_;refine TL.op1 (OpR.pickF rfl (eq_false_of_ne_true c26) rfl) rfl ?_;refine aA rfl rfl ?_;refine TL.nil ?_;obtain rfl:=osi ht25;exact⟨_,Gst.only [1,2,3,6,7,10,12,13,28,29,30] rfl,rfl⟩
  refine TL.on rfl rfl rfl rfl (c26) ?_;refine aA rfl rfl ?_;refine TL.on rfl rfl rfl rfl (c26) ?_;refine TL.op1 (OpR.loadPtr 2 rfl rfl rfl rfl) rfl ?_;refine TL.op1 (OpR.pickT rfl (c26) rfl) rfl ?_;refine aA rfl rfl ?_;refine TL.nil ?_;obtain rfl:=osi ht25;exact⟨_,Gst.only [1,2,3,6,7,10,12,13,28,29,30] rfl,rfl⟩
 rintro _ rfl;show T X _ _ _;refine T.seq ?_;refine aS ?_;iterate 3 refine aA rfl rfl ?_
 refine aN rfl ?_;obtain⟨t27,ht27,q18⟩:=bS q18;refine T.cutC (fun S'=>S'=⟨[(30,(dN s14.1)),(29,(dN (a0.fRows.length:Int))),(28,.sl 3 (List.map e_ref08_Row a0.fRows)),(13,(dT t25)),(12,(dP (blk p24))),(10,.val y13),(7,(dN 0)),(6,(dP (blk p1))),(3,.nod [.sl 3 (List.map e_ref08_Row a0.fRows),dT a0.fTail,dN a0.fEnd]),(2,(dT a1)),(1,.val (.slice none 0 0))],[.var (blk p1) [.val (.slice none 0 0),dT false,dN 0] 31,.row y13 (List.map e_ref08_Row s14.2) 3 60,.var (blk p24) [.sl 3 (List.map e_ref07_Cell x23.fCells),dN x23.fEnd,dT x23.fHidden] 60],63⟩) (fun _ h=>h) ?_ ?_;rotate_left
 ·rintro _ rfl;show T X _ _ _;refine aS ?_;iterate 2 refine aA rfl rfl ?_
  refine TL.op0 (OpR.store 2 rfl rfl rfl rfl rfl rfl rfl rfl) ?_;refine aN rfl ?_;refine T.region ?_;refine aA rfl rfl ?_;refine TL.op1 (OpR.loadPtr 2 rfl rfl rfl rfl) rfl ?_;refine TL.op1 (OpR.lit rfl rfl rfl rfl rfl rfl rfl) rfl ?_;obtain⟨x36,hx36,q18⟩:=bS q18;refine TL.op (OpR.appendM (m:=[(⟨x23.fCells,x23.fEnd,t25⟩:ref08_Row)]) e_ref08_Row 1 hx36 rfl rfl rfl rfl rfl rfl rfl rfl rfl (fun _=>rfl)) rfl (fun v37=>?_);refine aA rfl rfl ?_;refine aN rfl ?_;refine T.region ?_;iterate 2 refine aA rfl rfl ?_
  refine TL.nil ?_;obtain rfl:=osi q18;exact⟨m16,Nat.lt_succ_self _,_,gP [1,2,3,6,7,10,28,29,30] [0,1] rfl rfl rfl,v37,(w64 (s14.1+1),x36),rfl,i19⟩
 refine T.block ?_;obtain⟨n29,n34⟩:=loop_some ht27;refine T.loop (fun n S'=>∃ S'',Gst S' S''∧∃ s28:Unit,S''=⟨[(41,(dN 0)),(40,(dN 0)),(39,.val (.slice none 0 0)),(30,(dN s14.1)),(29,(dN (a0.fRows.length:Int))),(28,.sl 3 (List.map e_ref08_Row a0.fRows)),(13,(dT t25)),(12,(dP (blk p24))),(10,.val y13),(7,(dN 0)),(6,(dP (blk p1))),(3,.nod [.sl 3 (List.map e_ref08_Row a0.fRows),dT a0.fTail,dN a0.fEnd]),(2,(dT a1)),(1,.val (.slice none 0 0))],[.var (blk p1) [.val (.slice none 0 0),dT false,dN 0] 31,.row y13 (List.map e_ref08_Row s14.2) 3 60,.var (blk p24) [.sl 3 (List.map e_ref07_Cell x23.fCells),dN x23.fEnd,dT x23.fHidden] 60],63⟩∧iter ref18_Show_2.l2 n s28=some t27) n29 ?_ ?_
 ·exact⟨_,Gst.only [1,2,3,6,7,10,12,13,28,29,30,39,40,41] rfl,(),rfl,n34⟩
 rintro n29 _ ⟨_,g,s28,rfl,i33⟩;refine T.ghost g ?_;obtain⟨m30,q31,rfl,q32,i33⟩:=iter_succ i33;unfold ref18_Show_2.l2 at q32;refine aS ?_;refine TL.op1 (OpR.cast (OpR.pure rfl) (boolE (show (decide ((0:Int)<0))=false by decide))) rfl ?_;refine aN rfl ?_;refine T.seq ?_;refine T.condF rfl rfl ?_;refine T.exit ?_;obtain rfl:=osi q32;obtain rfl:_=_:=i33;exact⟨_,Gst.only [1,2,3,6,7,10,12,13,28,29,30] rfl,rfl⟩
noncomputable def law07_Plain (a0:cell_Cell) (a1:List UInt8):Option ref07_Cell:=
 bnd (cell_Cell_Bytes a0 a1) fun x3=>
 bnd (if a0.fKept=true then
 bnd (arena_Arena_Bytes a0.fRaw a1) fun x6=>
 some x6
else
 some []:Option (List UInt8)) fun t4=>
 some (⟨x3,t4,a0.fKept⟩:ref07_Cell)
theorem law07_Plain_c {a0:cell_Cell} {a1:List UInt8} {b0:Nat} {v1:Value} {res:ref07_Cell} (h0:law07_Plain a0 a1=some res):CallF X 144 [dP b0,.agg [.sl 2 (List.map e_arena_Span a0.fText.fL),dN a0.fText.fN,dN a0.fRaw.fAt,dN a0.fRaw.fN,dT a0.fKept]] [.var b0 [.val v1] 264,.row v1 (lB a1) 1 5] (fun x=>.agg [.val (.string (bs res.fS)),.val (.string (bs res.fRaw)),dT res.fKept]) (fun x=>[.var b0 [.val v1] 264,.row v1 (lB a1) 1 5]):=by
 unfold law07_Plain at h0;refine CallF.mkG (X:=X) rfl Tryz.func144 rfl rfl Tryz.ntmps144 rfl rfl ?_;refine aS ?_;refine TL.op1 (OpR.boxImm rfl rfl) rfl ?_;refine TL.op (OpR.alloc rfl rfl (fun _=>rfl)) rfl (fun p1=>?_);refine aN rfl ?_;refine T.seq ?_;obtain⟨x3,hx3,h0⟩:=bS h0;refine T.drawS drawsX (fun env2=>[.agg [.sl 2 (List.map e_arena_Span a0.fText.fL),dN a0.fText.fN,dN a0.fRaw.fAt,dN a0.fRaw.fN,dT a0.fKept],dP b0,.sl 1 (lB x3),.val (.string (bs x3)),.nod [dT a0.fKept],dT a0.fKept,.agg [.val (.string (bs x3)),.val (.string (bs [])),dT a0.fKept],dP (blk (env2 7)),.dead]) (fun D env2=>[.var b0 [.val v1] 264,.row v1 (lB a1) 1 5,.var (blk p1) [.val (.string (bs [])),.val (.string (bs [])),dT false] 151]++(bif D 7 then [(bif D 8 then .var (blk (env2 7)) [.val (.string (bs x3)),.val (.string (bs [])),dT a0.fKept] 151 else .var (blk (env2 7)) [.val (.string (bs [])),.val (.string (bs [])),dT false] 151)] else [])) [0,0,3,7,0,16,63,0,255] [0,3,4,5] _ (by decide +kernel) (by decide +kernel) (fun _=>rfl) (fun _=>rfl) ?_ (fun _=>rfl) (fun _=>rfl) ?_;rotate_left
 ·intro env2;show T X _ _ _;refine T.seq ?_;refine aS ?_;iterate 2 refine aA rfl rfl ?_
  refine aN rfl ?_;obtain⟨t4,ht4,h0⟩:=bS h0;refine T.cutC (fun S'=>S'=⟨[(5,(dP (blk (env2 7)))),(4,(dP (blk p1)))],[.var b0 [.val v1] 264,.row v1 (lB a1) 1 5,.var (blk p1) [.val (.string (bs [])),.val (.string (bs [])),dT false] 151,.var (blk (env2 7)) [.val (.string (bs x3)),.val (.string (bs t4)),dT a0.fKept] 151],22⟩) (fun _ h=>h) ?_ ?_;rotate_left
  ·rintro _ rfl;show T X _ _ _;refine aS ?_;refine TL.op1 (OpR.loadPtr 3 rfl rfl rfl rfl) rfl ?_;refine TL.op0 (OpR.store 2 rfl rfl rfl rfl rfl rfl rfl rfl) ?_;refine aN rfl ?_;refine T.ret ?_;obtain rfl:=osi h0;exact rP [0,1] [4] [0,1,2] rfl rfl rfl undef (cV 2 rfl rfl rfl rfl ResL.nil) rfl rfl rfl rfl
  rcases ite_some ht4 with ⟨c5,ht4⟩|⟨c5,ht4⟩;rotate_left
  ·refine T.condF rfl (eq_false_of_ne_true c5) ?_;refine T.skip ?_;obtain rfl:=osi ht4;exact⟨_,Gst.only [4,5] rfl,rfl⟩
  refine T.condT rfl (c5) ?_;refine T.region ?_;iterate 3 refine aA rfl rfl ?_
  obtain⟨x6,hx6,ht4⟩:=bS ht4;refine TL.op1 (OpR.call [0,1] fn201 (arena_Arena_Bytes_c hx6) rfl rfl rfl (fun _=>rfl)) rfl ?_;refine TL.op1 (OpR.toStr (bs:=x6) rfl rfl rfl rfl rfl rfl rfl) rfl ?_;refine aA rfl rfl ?_;refine TL.op0 (OpR.store 3 rfl rfl rfl rfl rfl rfl rfl rfl) ?_;refine TL.nil ?_;obtain rfl:=osi ht4;exact⟨_,Gst.only [4,5] rfl,rfl⟩
 iterate 2 refine aC ?_
 refine OpsS.cons' true ?_ (fun _ _ _ _ _ _ _=>rfl) ?_
 ·intro D env2 hA;have e8:D 8=false:=hA.no 8 _ rfl rfl;rcases Bool.eq_false_or_eq_true (D 7) with e7|e7
  ·exact OpS.yp [(8,false),(7,true)] ⟨e8,e7,trivial⟩ (Want.plain rfl) (OpR.call [0,1] fn113 (cell_Cell_Bytes_c hx3) rfl rfl rfl (fun _=>rfl)) (fun x=>rfl) (fun x=>rfl)
  exact OpS.yp [(8,false),(7,false)] ⟨e8,e7,trivial⟩ (Want.plain rfl) (OpR.call [0,1] fn113 (cell_Cell_Bytes_c hx3) rfl rfl rfl (fun _=>rfl)) (fun x=>rfl) (fun x=>rfl)
 refine oT (.val (.string (bs x3))) (fun _ _=>OpR.toStr (bs:=x3) rfl rfl rfl rfl rfl rfl rfl) ?_;iterate 2 refine aC ?_
 refine oT (.agg [.val (.string (bs x3)),.val (.string (bs [])),dT a0.fKept]) (fun _ _=>OpR.build rfl rfl rfl rfl rfl) ?_;refine OpsS.cons' true ?_ (fun D hA env2 x j hj hD=>match j,hj,hD with|0,_,_=>rfl|1,_,_=>rfl|2,_,_=>rfl|3,_,_=>rfl|4,_,_=>rfl|5,_,_=>rfl|6,_,_=>rfl|7,hj,_=>absurd rfl hj|8,_,_=>rfl|_+9,_,_=>rfl) ?_
 ·intro D env2 hA;have e8:D 8=false:=hA.no 8 _ rfl rfl;exact OpS.yp [(8,false),(7,false)] ⟨e8,hA.me,trivial⟩ (Want.plain rfl) (OpR.alloc rfl rfl (fun _=>rfl)) (fun x=>rfl) (fun x=>rfl)
 refine OpsS.cons' true ?_ (fun _ _ _ _ _ _ _=>rfl) ?_
 ·intro D env2 hA;have e7:D 7=true:=hA.yes 7 _ rfl rfl;exact OpS.yp [(7,true),(8,false)] ⟨e7,hA.me,trivial⟩ (Want.plain rfl) (OpR.store 3 rfl rfl rfl rfl rfl rfl rfl rfl) (fun x=>rfl) (fun x=>rfl)
 exact trivial
noncomputable def law08_Plain.l1 (a0:row_Row) (a1:List UInt8) (s6:Int × (List ref07_Cell)):Option (Lp (Int × (List ref07_Cell)) (List ref07_Cell)):=
 if s6.1<(a0.fCells.length:Int) then
 bnd (idx a0.fCells s6.1) fun x15=>
 bnd (law07_Plain x15 a1) fun x18=>
 bnd (app 40 s6.2 [x18]) fun x19=>
 some (Lp.next (w64 (s6.1+1),x19))
else
 some (Lp.done s6.2)
noncomputable def law08_Plain (a0:row_Row) (a1:List UInt8):Option ref08_Row:=
 bnd (loop (law08_Plain.l1 a0 a1) (0,[]):Option (List ref07_Cell)) fun t3=>
 some (⟨t3,a0.fEnd,a0.fHidden⟩:ref08_Row)
theorem law08_Plain_c {a0:row_Row} {a1:List UInt8} {b0:Nat} {v1:Value} {res:ref08_Row} (h0:law08_Plain a0 a1=some res):CallF X 75 [dP b0,.agg [.sl 5 (List.map e_cell_Cell a0.fCells),dN a0.fEnd,dT a0.fHidden]] [.var b0 [.val v1] 264,.row v1 (lB a1) 1 5] (fun x=>.agg [.sl 3 (List.map e_ref07_Cell res.fCells),dN res.fEnd,dT res.fHidden]) (fun x=>[.var b0 [.val v1] 264,.row v1 (lB a1) 1 5]):=by
 unfold law08_Plain at h0;refine CallF.mkG (X:=X) rfl Tryz.func75 rfl rfl Tryz.ntmps75 rfl rfl ?_;refine aS ?_;refine TL.op1 (OpR.boxImm rfl rfl) rfl ?_;refine TL.op (OpR.alloc rfl rfl (fun _=>rfl)) rfl (fun p1=>?_);refine aN rfl ?_;refine aS ?_;iterate 4 refine aA rfl rfl ?_
 refine TL.op1 (OpR.build rfl rfl rfl rfl rfl) rfl ?_;refine TL.op (OpR.alloc rfl rfl (fun _=>rfl)) rfl (fun p2=>?_);refine TL.op0 (OpR.store 3 rfl rfl rfl rfl rfl rfl rfl rfl) ?_;refine aN rfl ?_;refine T.seq ?_;refine aS ?_;iterate 2 refine aA rfl rfl ?_
 refine TL.op1 (OpR.cast (OpR.pure rfl) (intE (lenM _ _))) rfl ?_;refine aA rfl rfl ?_;refine aN rfl ?_;obtain⟨t3,ht3,h0⟩:=bS h0;refine T.cutC (fun S'=>∃ y4:Value,S'=⟨[(5,(dP (blk p2))),(4,(dP (blk p1)))],[.var b0 [.val v1] 264,.row v1 (lB a1) 1 5,.var (blk p1) [.val (.slice none 0 0),dN 0,dT false] 60,.var (blk p2) [.val y4,dN a0.fEnd,dT a0.fHidden] 60,.row y4 (List.map e_ref07_Cell t3) 3 151],30⟩) (fun _ h=>h) ?_ ?_;rotate_left
 ·rintro _ ⟨y4,rfl⟩;show T X _ _ _;refine aS ?_;refine TL.op1 (OpR.loadPtr 3 rfl rfl rfl rfl) rfl ?_;refine TL.op0 (OpR.store 2 rfl rfl rfl rfl rfl rfl rfl rfl) ?_;refine aN rfl ?_;refine T.ret ?_;obtain rfl:=osi h0;exact PostG.retP (ks:=[0,1]) (Gst.trans (Gst.only [4] rfl) (Gst.trans (Gst.freezeRow 4 rfl rfl (ReS.cons Re.refl ReS.nil) (ReO.same (ReO.same (ReO.var (ReL.cons (Re.base .all) (ReL.cons Re.refl (ReL.cons Re.refl ReL.nil))) (ReO.var (ReL.cons (Re.base .all) (ReL.cons Re.refl (ReL.cons Re.refl ReL.nil))) (ReO.same ReO.nil)))))) (Gst.pick [0,1,2] rfl rfl))) undef (cV 2 rfl rfl rfl rfl ResL.nil) rfl rfl rfl rfl
 refine T.block ?_;obtain⟨n7,n12⟩:=loop_some ht3;refine T.loop (fun n S'=>∃ S'',Gst S' S''∧∃ y5:Value,∃ s6:Int × (List ref07_Cell),S''=⟨[(16,(dN s6.1)),(15,(dN (a0.fCells.length:Int))),(14,.sl 5 (List.map e_cell_Cell a0.fCells)),(5,(dP (blk p2))),(4,(dP (blk p1))),(0,(dP b0))],[.var b0 [.val v1] 264,.row v1 (lB a1) 1 5,.var (blk p1) [.val (.slice none 0 0),dN 0,dT false] 60,.var (blk p2) [.val y5,dN a0.fEnd,dT a0.fHidden] 60,.row y5 (List.map e_ref07_Cell s6.2) 3 151],30⟩∧iter (law08_Plain.l1 a0 a1) n s6=some t3) n7 ?_ ?_
 ·exact⟨_,Gst.trans (Gst.only [0,4,5,14,15,16] rfl) (Gst.nilRow (ow:=[.var b0 [.val v1] 264,.row v1 (lB a1) 1 5,.var (blk p1) [.val (.slice none 0 0),dN 0,dT false] 60,.var (blk p2) [.val (.slice none 0 0),dN a0.fEnd,dT a0.fHidden] 60]) 3 151 rfl),(.slice none 0 0),(0,[]),rfl,n12⟩
 rintro n7 _ ⟨_,g,y5,s6,rfl,i11⟩;refine T.ghost g ?_;obtain⟨m8,q9,rfl,q10,i11⟩:=iter_succ i11;unfold law08_Plain.l1 at q10;refine aS ?_;refine aA rfl rfl ?_;refine aN rfl ?_;refine T.seq ?_;rcases ite_some q10 with ⟨c14,q10⟩|⟨c14,q10⟩;rotate_left
 ·refine T.condF rfl (eF c14) ?_;refine T.exit ?_;obtain rfl:=osi q10;obtain rfl:_=_:=i11;exact⟨_,Gst.only [4,5] rfl,y5,rfl⟩
 refine T.condT rfl (eT c14) ?_;refine aK rfl ?_;refine T.seq ?_;refine T.block ?_;refine aS ?_;obtain⟨x15,hx15,q10⟩:=bS q10;refine TL.op1 (OpR.indexM e_cell_Cell hx15 rfl rfl rfl rfl rfl) rfl ?_;refine aA rfl rfl ?_;refine TL.op (OpR.alloc rfl rfl (fun _=>rfl)) rfl (fun p16=>?_);refine TL.op0 (OpR.store 5 rfl rfl rfl rfl rfl rfl rfl rfl) ?_;refine aN rfl ?_;obtain⟨x18,hx18,q10⟩:=bS q10;obtain⟨x19,hx19,q10⟩:=bS q10;refine T.drawS drawsX (fun env17=>[dP (blk p2),.val y5,dP b0,.agg [.sl 2 (List.map e_arena_Span x15.fText.fL),dN x15.fText.fN,dN x15.fRaw.fAt,dN x15.fRaw.fN,dT x15.fKept],.agg [.val (.string (bs x18.fS)),.val (.string (bs x18.fRaw)),dT x18.fKept],.sl 3 (List.map e_ref07_Cell [x18]),.val (env17 6),dP (blk p2),.dead]) (fun D env17=>[.var b0 [.val v1] 264,.row v1 (lB a1) 1 5,.var (blk p1) [.val (.slice none 0 0),dN 0,dT false] 60,(bif D 8 then .var (blk p2) [.val (env17 6),dN a0.fEnd,dT a0.fHidden] 60 else .var (blk p2) [.val y5,dN a0.fEnd,dT a0.fHidden] 60),(bif D 6 then .row (env17 6) (List.map e_ref07_Cell x19) 3 151 else .row y5 (List.map e_ref07_Cell s6.2) 3 151),.var (blk p16) [.sl 2 (List.map e_arena_Span x15.fText.fL),dN x15.fText.fN,dN x15.fRaw.fAt,dN x15.fRaw.fN,dT x15.fKept] 144]) [0,1,0,0,12,28,63,127,255] [0,4,5,14,15,16] _ (by decide +kernel) (by decide +kernel) (fun _=>rfl) (fun _=>rfl) ?_ (fun _=>rfl) (fun _=>rfl) ?_;rotate_left
 ·intro env17;show T X _ _ _;refine T.region ?_;iterate 2 refine aA rfl rfl ?_
  refine TL.nil ?_;obtain rfl:=osi q10;exact⟨m8,Nat.lt_succ_self _,_,gP [0,4,5,14,15,16] [0,1,2,3,4] rfl rfl rfl,(env17 6),(w64 (s6.1+1),x19),rfl,i11⟩
 refine aC ?_;refine OpsS.cons' true ?_ (fun _ _ _ _ _ _ _=>rfl) ?_
 ·intro D env17 hA;have e6:D 6=false:=hA.no 6 _ rfl rfl;have e8:D 8=false:=hA.no 8 _ rfl rfl;exact OpS.yp [(6,false),(8,false)] ⟨e6,e8,trivial⟩ (Want.plain rfl) (OpR.loadPtr 3 rfl rfl rfl rfl) (fun x=>rfl) (fun x=>rfl)
 refine aC ?_;refine oT (.agg [.sl 2 (List.map e_arena_Span x15.fText.fL),dN x15.fText.fN,dN x15.fRaw.fAt,dN x15.fRaw.fN,dT x15.fKept]) (fun _ _=>OpR.loadPtr 5 rfl rfl rfl rfl) ?_;refine OpsS.cons' true ?_ (fun _ _ _ _ _ _ _=>rfl) ?_
 ·intro D env17 hA;have e6:D 6=false:=hA.no 6 _ rfl rfl;have e8:D 8=false:=hA.no 8 _ rfl rfl;exact OpS.yp [(6,false),(8,false)] ⟨e6,e8,trivial⟩ (Want.plain rfl) (OpR.call [0,1] fn144 (law07_Plain_c hx18) rfl rfl rfl (fun _=>rfl)) (fun x=>rfl) (fun x=>rfl)
 refine oT (.sl 3 (List.map e_ref07_Cell [x18])) (fun _ _=>OpR.lit rfl rfl rfl rfl rfl rfl rfl) ?_;refine OpsS.cons' true ?_ (fun D hA env17 x j hj hD=>match j,hj,hD with|0,_,_=>rfl|1,_,_=>rfl|2,_,_=>rfl|3,_,_=>rfl|4,_,_=>rfl|5,_,_=>rfl|6,hj,_=>absurd rfl hj|7,_,_=>rfl|8,_,_=>rfl|_+9,_,_=>rfl) ?_
 ·intro D env17 hA;have e8:D 8=false:=hA.no 8 _ rfl rfl;exact OpS.yp [(8,false),(6,false)] ⟨e8,hA.me,trivial⟩ (Want.plain rfl) (OpR.appendM (m:=[x18]) e_ref07_Cell 4 hx19 rfl rfl rfl rfl rfl rfl rfl rfl rfl (fun _=>rfl)) (fun x=>rfl) (fun x=>rfl)
 refine aC ?_;refine OpsS.cons' true ?_ (fun _ _ _ _ _ _ _=>rfl) ?_
 ·intro D env17 hA;have e6:D 6=true:=hA.yes 6 _ rfl rfl;exact OpS.yp [(6,true),(8,false)] ⟨e6,hA.me,trivial⟩ (Want.plain rfl) (OpR.store 3 rfl rfl rfl rfl rfl rfl rfl rfl) (fun x=>rfl) (fun x=>rfl)
 exact trivial
noncomputable def law11_Plain.l1 (a0:grid_Grid) (a1:List UInt8) (s6:Int × (List ref08_Row)):Option (Lp (Int × (List ref08_Row)) (List ref08_Row)):=
 bnd (bnd (grid_Grid_Len a0) fun x15=>
 if s6.1<x15 then
 some (decide (s6.1<1000))
else
 some false:Option Bool) fun t14=>
 if t14=true then
 bnd (grid_Grid_Row a0 s6.1) fun x18=>
 bnd (law08_Plain x18.1 a1) fun x21=>
 bnd (app 40 s6.2 [x21]) fun x22=>
 some (Lp.next (w64 (s6.1+1),x22))
else
 some (Lp.done s6.2)
noncomputable def law11_Plain (a0:grid_Grid) (a1:List UInt8):Option ref11_Grid:=
 bnd (loop (law11_Plain.l1 a0 a1) (0,[]):Option (List ref08_Row)) fun t3=>
 some (⟨t3,a0.fTail,a0.fEnd⟩:ref11_Grid)
theorem law11_Plain_c {a0:grid_Grid} {a1:List UInt8} {b0:Nat} {v1:Value} {res:ref11_Grid} (h0:law11_Plain a0 a1=some res):CallF X 19 [dP b0,.agg [(eOP a0.fRows.fRoot),dT a0.fTail,dN a0.fEnd]] [.var b0 [.val v1] 264,.row v1 (lB a1) 1 5] (fun x=>.agg [.sl 3 (List.map e_ref08_Row res.fRows),dT res.fTail,dN res.fEnd]) (fun x=>[.var b0 [.val v1] 264,.row v1 (lB a1) 1 5]):=by
 unfold law11_Plain at h0;refine CallF.mkG (X:=X) rfl Tryz.func19 rfl rfl Tryz.ntmps19 rfl rfl ?_;refine aS ?_;refine TL.op1 (OpR.boxImm rfl rfl) rfl ?_;refine TL.op (OpR.alloc rfl rfl (fun _=>rfl)) rfl (fun p1=>?_);refine aN rfl ?_;refine aS ?_;iterate 4 refine aA rfl rfl ?_
 refine TL.op1 (OpR.build rfl rfl rfl rfl rfl) rfl ?_;refine TL.op (OpR.alloc rfl rfl (fun _=>rfl)) rfl (fun p2=>?_);refine TL.op0 (OpR.store 3 rfl rfl rfl rfl rfl rfl rfl rfl) ?_;refine aN rfl ?_;refine T.seq ?_;refine aS ?_;refine aA rfl rfl ?_;refine aN rfl ?_;obtain⟨t3,ht3,h0⟩:=bS h0;refine T.cutC (fun S'=>∃ y4:Value,S'=⟨[(5,(dP (blk p2))),(4,(dP (blk p1)))],[.var b0 [.val v1] 264,.row v1 (lB a1) 1 5,.var (blk p1) [.val (.slice none 0 0),dT false,dN 0] 31,.var (blk p2) [.val y4,dT a0.fTail,dN a0.fEnd] 31,.row y4 (List.map e_ref08_Row t3) 3 60],39⟩) (fun _ h=>h) ?_ ?_;rotate_left
 ·rintro _ ⟨y4,rfl⟩;show T X _ _ _;refine aS ?_;refine TL.op1 (OpR.loadPtr 3 rfl rfl rfl rfl) rfl ?_;refine TL.op0 (OpR.store 2 rfl rfl rfl rfl rfl rfl rfl rfl) ?_;refine aN rfl ?_;refine T.ret ?_;obtain rfl:=osi h0;exact PostG.retP (ks:=[0,1]) (Gst.trans (Gst.only [4] rfl) (Gst.trans (Gst.freezeRow 4 rfl rfl (ReS.cons Re.refl ReS.nil) (ReO.same (ReO.same (ReO.var (ReL.cons (Re.base .all) (ReL.cons Re.refl (ReL.cons Re.refl ReL.nil))) (ReO.var (ReL.cons (Re.base .all) (ReL.cons Re.refl (ReL.cons Re.refl ReL.nil))) (ReO.same ReO.nil)))))) (Gst.pick [0,1,2] rfl rfl))) undef (cV 2 rfl rfl rfl rfl ResL.nil) rfl rfl rfl rfl
 refine T.block ?_;obtain⟨n7,n12⟩:=loop_some ht3;refine T.loop (fun n S'=>∃ S'',Gst S' S''∧∃ y5:Value,∃ s6:Int × (List ref08_Row),S''=⟨[(6,(dN s6.1)),(5,(dP (blk p2))),(4,(dP (blk p1))),(3,.nod [(eOP a0.fRows.fRoot),dT a0.fTail,dN a0.fEnd]),(0,(dP b0))],[.var b0 [.val v1] 264,.row v1 (lB a1) 1 5,.var (blk p1) [.val (.slice none 0 0),dT false,dN 0] 31,.var (blk p2) [.val y5,dT a0.fTail,dN a0.fEnd] 31,.row y5 (List.map e_ref08_Row s6.2) 3 60],39⟩∧iter (law11_Plain.l1 a0 a1) n s6=some t3) n7 ?_ ?_
 ·exact⟨_,Gst.trans (Gst.only [0,3,4,5,6] rfl) (Gst.nilRow (ow:=[.var b0 [.val v1] 264,.row v1 (lB a1) 1 5,.var (blk p1) [.val (.slice none 0 0),dT false,dN 0] 31,.var (blk p2) [.val (.slice none 0 0),dT a0.fTail,dN a0.fEnd] 31]) 3 60 rfl),(.slice none 0 0),(0,[]),rfl,n12⟩
 rintro n7 _ ⟨_,g,y5,s6,rfl,i11⟩;refine T.ghost g ?_;obtain⟨m8,q9,rfl,q10,i11⟩:=iter_succ i11;unfold law11_Plain.l1 at q10;refine T.seq ?_;refine T.seq ?_;obtain⟨t14,ht14,q10⟩:=bS q10;refine T.cutC (fun S'=>S'=⟨[(21,(dT t14)),(6,(dN s6.1)),(5,(dP (blk p2))),(4,(dP (blk p1))),(3,.nod [(eOP a0.fRows.fRoot),dT a0.fTail,dN a0.fEnd]),(0,(dP b0))],[.var b0 [.val v1] 264,.row v1 (lB a1) 1 5,.var (blk p1) [.val (.slice none 0 0),dT false,dN 0] 31,.var (blk p2) [.val y5,dT a0.fTail,dN a0.fEnd] 31,.row y5 (List.map e_ref08_Row s6.2) 3 60],39⟩) (fun _ h=>h) ?_ ?_
 ·refine T.region ?_;iterate 2 refine aA rfl rfl ?_
  obtain⟨x15,hx15,ht14⟩:=bS ht14;refine TL.op1 (OpR.call0 fn22 (grid_Grid_Len_c hx15) rfl) rfl ?_;iterate 2 refine aA rfl rfl ?_
  rcases ite_some ht14 with ⟨c16,ht14⟩|⟨c16,ht14⟩;rotate_left
  ·refine TL.off rfl rfl rfl rfl (eF c16) rfl rfl ?_;refine TL.off rfl rfl rfl rfl (eF c16) rfl rfl ?_;refine TL.op1 (OpR.pickF rfl (eF c16) rfl) rfl ?_;refine TL.nil ?_;obtain rfl:=osi ht14;exact⟨_,Gst.only [0,3,4,5,6,21] rfl,rfl⟩
  refine TL.on rfl rfl rfl rfl (eT c16) ?_;refine aA rfl rfl ?_;refine TL.on rfl rfl rfl rfl (eT c16) ?_;refine aA rfl rfl ?_;refine TL.op1 (OpR.pickT rfl (eT c16) rfl) rfl ?_;refine TL.nil ?_;obtain rfl:=osi ht14;exact⟨_,Gst.only [0,3,4,5,6,21] rfl,rfl⟩
 rintro _ rfl;show T X _ _ _;rcases ite_some q10 with ⟨c17,q10⟩|⟨c17,q10⟩;rotate_left
 ·refine T.condF rfl (eq_false_of_ne_true c17) ?_;refine T.exit ?_;obtain rfl:=osi q10;obtain rfl:_=_:=i11;exact⟨_,Gst.only [4,5] rfl,y5,rfl⟩
 refine T.condT rfl (c17) ?_;refine aK rfl ?_;refine T.seq ?_;refine T.block ?_;refine aS ?_;iterate 2 refine aA rfl rfl ?_
 obtain⟨x18,hx18,q10⟩:=bS q10;refine TL.op1 (OpR.call0 fn24 (grid_Grid_Row_c hx18) rfl) rfl ?_;iterate 3 refine aA rfl rfl ?_
 refine TL.op (OpR.alloc rfl rfl (fun _=>rfl)) rfl (fun p19=>?_);refine TL.op0 (OpR.store 5 rfl rfl rfl rfl rfl rfl rfl rfl) ?_;refine aA rfl rfl ?_;refine aN rfl ?_;obtain⟨x21,hx21,q10⟩:=bS q10;obtain⟨x22,hx22,q10⟩:=bS q10;refine T.drawS drawsX (fun env20=>[dP (blk p2),.val y5,dP b0,.agg [.sl 5 (List.map e_cell_Cell x18.1.fCells),dN x18.1.fEnd,dT x18.1.fHidden],.agg [.sl 3 (List.map e_ref07_Cell x21.fCells),dN x21.fEnd,dT x21.fHidden],.sl 3 (List.map e_ref08_Row [x21]),.val (env20 6),dP (blk p2),.dead]) (fun D env20=>[.var b0 [.val v1] 264,.row v1 (lB a1) 1 5,.var (blk p1) [.val (.slice none 0 0),dT false,dN 0] 31,(bif D 8 then .var (blk p2) [.val (env20 6),dT a0.fTail,dN a0.fEnd] 31 else .var (blk p2) [.val y5,dT a0.fTail,dN a0.fEnd] 31),(bif D 6 then .row (env20 6) (List.map e_ref08_Row x22) 3 60 else .row y5 (List.map e_ref08_Row s6.2) 3 60),.var (blk p19) [.sl 5 (List.map e_cell_Cell x18.1.fCells),dN x18.1.fEnd,dT x18.1.fHidden] 49]) [0,1,0,0,12,28,63,127,255] [0,3,4,5,6] _ (by decide +kernel) (by decide +kernel) (fun _=>rfl) (fun _=>rfl) ?_ (fun _=>rfl) (fun _=>rfl) ?_;rotate_left
 ·intro env20;show T X _ _ _;refine T.region ?_;iterate 3 refine aA rfl rfl ?_
  refine TL.nil ?_;obtain rfl:=osi q10;exact⟨m8,Nat.lt_succ_self _,_,gP [0,3,4,5,6] [0,1,2,3,4] rfl rfl rfl,(env20 6),(w64 (s6.1+1),x22),rfl,i11⟩
 refine aC ?_;refine OpsS.cons' true ?_ (fun _ _ _ _ _ _ _=>rfl) ?_
 ·intro D env20 hA;have e6:D 6=false:=hA.no 6 _ rfl rfl;have e8:D 8=false:=hA.no 8 _ rfl rfl;exact OpS.yp [(6,false),(8,false)] ⟨e6,e8,trivial⟩ (Want.plain rfl) (OpR.loadPtr 3 rfl rfl rfl rfl) (fun x=>rfl) (fun x=>rfl)
 refine aC ?_;refine oT (.agg [.sl 5 (List.map e_cell_Cell x18.1.fCells),dN x18.1.fEnd,dT x18.1.fHidden]) (fun _ _=>OpR.loadPtr 5 rfl rfl rfl rfl) ?_;refine OpsS.cons' true ?_ (fun _ _ _ _ _ _ _=>rfl) ?_
 ·intro D env20 hA;have e6:D 6=false:=hA.no 6 _ rfl rfl;have e8:D 8=false:=hA.no 8 _ rfl rfl;exact OpS.yp [(6,false),(8,false)] ⟨e6,e8,trivial⟩ (Want.plain rfl) (OpR.call [0,1] fn75 (law08_Plain_c hx21) rfl rfl rfl (fun _=>rfl)) (fun x=>rfl) (fun x=>rfl)
 refine oT (.sl 3 (List.map e_ref08_Row [x21])) (fun _ _=>OpR.lit rfl rfl rfl rfl rfl rfl rfl) ?_;refine OpsS.cons' true ?_ (fun D hA env20 x j hj hD=>match j,hj,hD with|0,_,_=>rfl|1,_,_=>rfl|2,_,_=>rfl|3,_,_=>rfl|4,_,_=>rfl|5,_,_=>rfl|6,hj,_=>absurd rfl hj|7,_,_=>rfl|8,_,_=>rfl|_+9,_,_=>rfl) ?_
 ·intro D env20 hA;have e8:D 8=false:=hA.no 8 _ rfl rfl;exact OpS.yp [(8,false),(6,false)] ⟨e8,hA.me,trivial⟩ (Want.plain rfl) (OpR.appendM (m:=[x21]) e_ref08_Row 4 hx22 rfl rfl rfl rfl rfl rfl rfl rfl rfl (fun _=>rfl)) (fun x=>rfl) (fun x=>rfl)
 refine aC ?_;refine OpsS.cons' true ?_ (fun _ _ _ _ _ _ _=>rfl) ?_
 ·intro D env20 hA;have e6:D 6=true:=hA.yes 6 _ rfl rfl;exact OpS.yp [(6,true),(8,false)] ⟨e6,hA.me,trivial⟩ (Want.plain rfl) (OpR.store 3 rfl rfl rfl rfl rfl rfl rfl rfl) (fun x=>rfl) (fun x=>rfl)
 exact trivial
noncomputable def ref07_Same.l1 (a0:List ref07_Cell) (a1:List ref07_Cell) (s4:Int):Option (Lp Int (Ex Unit Bool)):=
 if s4<(a0.length:Int) then
 bnd (idx a0 s4) fun x14=>
 bnd (idx a1 s4) fun x15=>
 if x14=x15 then
 some (Lp.next (w64 (s4+1)))
else
 some (Lp.done (Ex.ret false))
else
 some (Lp.done (Ex.brk ()))
noncomputable def ref07_Same (a0:List ref07_Cell) (a1:List ref07_Cell):Option Bool:=
 if (a0.length:Int)=(a1.length:Int) then
 bnd (loop (ref07_Same.l1 a0 a1) 0:Option (Ex Unit Bool)) fun t2=>match t2 with
| .brk u3=>
 some true
| .ret u3=>some u3
else
 some false
theorem ref07_Same_c {a0:List ref07_Cell} {a1:List ref07_Cell} {res:Bool} (h0:ref07_Same a0 a1=some res):CallF X 30 [.sl 3 (List.map e_ref07_Cell a0),.sl 3 (List.map e_ref07_Cell a1)] [] (fun x=>(dT res)) (fun x=>[]):=by
 unfold ref07_Same at h0;refine CallF.mkG (X:=X) rfl Tryz.func30 rfl rfl Tryz.ntmps30 rfl rfl ?_;refine aS ?_;refine aA rfl rfl ?_;refine aN rfl ?_;refine T.seq ?_;refine aS ?_;refine aA rfl rfl ?_;refine TL.op1 (OpR.cast (OpR.pure rfl) (intE (lenM _ _))) rfl ?_;refine aA rfl rfl ?_;refine TL.op1 (OpR.cast (OpR.pure rfl) (intE (lenM _ _))) rfl ?_;refine aA rfl rfl ?_;refine aN rfl ?_;rcases ite_some h0 with ⟨c1,h0⟩|⟨c1,h0⟩;rotate_left
 ·refine T.condT rfl (not_f (beq_eq_false_iff_ne.2 c1)) ?_;refine aS ?_;refine aA rfl rfl ?_;refine aN rfl ?_;refine T.ret ?_;obtain rfl:=osi h0;exact rO [] [4] rfl undef (cT rfl ResL.nil) rfl rfl rfl rfl
 refine T.condF rfl (not_t (beq_iff_eq.2 c1)) ?_;refine aK rfl ?_;refine T.seq ?_;refine aS ?_;refine aA rfl rfl ?_;refine TL.op1 (OpR.cast (OpR.pure rfl) (intE (lenM _ _))) rfl ?_;refine aA rfl rfl ?_;refine aN rfl ?_;obtain⟨t2,ht2,h0⟩:=bS h0;refine T.cutC (fun S'=>∃ u3,t2=Ex.brk u3∧S'=⟨[(4,(dT false))],[],26⟩) (fun _ h=>h) ?_ ?_;rotate_left
 ·rintro _ ⟨u3,rfl,rfl⟩;show T X _ _ _;refine aS ?_;refine aA rfl rfl ?_;refine aN rfl ?_;refine T.ret ?_;obtain rfl:=osi h0;exact rO [] [4] rfl undef (cT rfl ResL.nil) rfl rfl rfl rfl
 refine T.block ?_;obtain⟨n5,n10⟩:=loop_some ht2;refine T.loop (fun n S'=>∃ S'',Gst S' S''∧∃ s4:Int,S''=⟨[(13,(dN s4)),(12,(dN (a0.length:Int))),(4,(dT false)),(1,.sl 3 (List.map e_ref07_Cell a1)),(0,.sl 3 (List.map e_ref07_Cell a0))],[],26⟩∧iter (ref07_Same.l1 a0 a1) n s4=some t2) n5 ?_ ?_
 ·exact⟨_,Gst.only [0,1,4,12,13] rfl,0,rfl,n10⟩
 rintro n5 _ ⟨_,g,s4,rfl,i9⟩;refine T.ghost g ?_;obtain⟨m6,q7,rfl,q8,i9⟩:=iter_succ i9;unfold ref07_Same.l1 at q8;refine aS ?_;refine aA rfl rfl ?_;refine aN rfl ?_;refine T.seq ?_;rcases ite_some q8 with ⟨c12,q8⟩|⟨c12,q8⟩;rotate_left
 ·refine T.condF rfl (eF c12) ?_;refine T.exit ?_;obtain rfl:=osi q8;obtain rfl:_=_:=i9;exact⟨_,Gst.only [4] rfl,_,rfl,rfl⟩
 refine T.condT rfl (eT c12) ?_;refine aK rfl ?_;refine T.seq ?_;refine T.block ?_;refine aS ?_;iterate 2 refine aA rfl rfl ?_
 refine aN rfl ?_;refine T.seq ?_;obtain⟨x14,hx14,q8⟩:=bS q8;obtain⟨x15,hx15,q8⟩:=bS q8;refine T.drawQ drawsX [.sl 3 (List.map e_ref07_Cell a0),dN s4,.nod [.val (.string (bs x14.fS)),.val (.string (bs x14.fRaw)),dT x14.fKept],.agg [.val (.string (bs x14.fS)),.val (.string (bs x14.fRaw)),dT x14.fKept],.sl 3 (List.map e_ref07_Cell a1),dN s4,.nod [.val (.string (bs x15.fS)),.val (.string (bs x15.fRaw)),dT x15.fKept],.agg [.val (.string (bs x15.fS)),.val (.string (bs x15.fRaw)),dT x15.fKept],dT (!(x14==x15))] [0,1,4,12,13,24] (by decide +kernel) rfl ?_ rfl ?_
 ·iterate 2 refine aB rfl rfl rfl ?_
  refine OpsQ.yes (Want.plain rfl) rfl (OpR.indexM e_ref07_Cell hx14 rfl rfl rfl rfl rfl) ?_;iterate 3 refine aB rfl rfl rfl ?_
  refine OpsQ.yes (Want.plain rfl) rfl (OpR.indexM e_ref07_Cell hx15 rfl rfl rfl rfl rfl) ?_;refine aB rfl rfl rfl ?_;refine OpsQ.yes (Want.plain rfl) rfl (OpR.cast (OpR.neStruct rfl rfl rfl rfl rfl (by kernel_rfl) (by kernel_rfl)) (boolE (congrArg (fun b=>!b) (beq_ref07_Cell x14 x15)))) ?_;exact OpsQ.nil
 show T X _ _ _;rcases ite_some q8 with ⟨c16,q8⟩|⟨c16,q8⟩
 ·refine T.condF rfl (not_t (beq_iff_eq.2 c16)) ?_;refine aK rfl ?_;refine T.region ?_;iterate 2 refine aA rfl rfl ?_
  refine TL.nil ?_;obtain rfl:=osi q8;exact⟨m6,Nat.lt_succ_self _,_,Gst.only [0,1,4,12,13] rfl,w64 (s4+1),rfl,i9⟩
 refine T.condT rfl (not_f (beq_eq_false_iff_ne.2 c16)) ?_;refine aS ?_;refine aA rfl rfl ?_;refine aN rfl ?_;refine T.ret ?_;obtain rfl:=osi q8;obtain rfl:_=_:=i9;obtain rfl:=osi h0;exact rO [] [4] rfl undef (cT rfl ResL.nil) rfl rfl rfl rfl
noncomputable def ref08_Same (a0:ref08_Row) (a1:ref08_Row):Option Bool:=
 bnd (if a0.fEnd=a1.fEnd then
 if (a0.fHidden==a1.fHidden)=true then
 bnd (ref07_Same a0.fCells a1.fCells) fun x4=>
 some x4
else
 some false
else
 some false:Option Bool) fun t1=>
 some t1
theorem ref08_Same_c {a0:ref08_Row} {a1:ref08_Row} {res:Bool} (h0:ref08_Same a0 a1=some res):CallF X 65 [.agg [.sl 3 (List.map e_ref07_Cell a0.fCells),dN a0.fEnd,dT a0.fHidden],.agg [.sl 3 (List.map e_ref07_Cell a1.fCells),dN a1.fEnd,dT a1.fHidden]] [] (fun x=>(dT res)) (fun x=>[]):=by
 unfold ref08_Same at h0;refine CallF.mkG (X:=X) rfl Tryz.func65 rfl rfl Tryz.ntmps65 rfl rfl ?_;refine aS ?_;refine TL.op1 (OpR.boxImm rfl rfl) rfl ?_;refine TL.op1 (OpR.boxImm rfl rfl) rfl ?_;refine aA rfl rfl ?_;refine aN rfl ?_;refine T.seq ?_;obtain⟨t1,ht1,h0⟩:=bS h0;refine T.cutC (fun S'=>S'=⟨[(4,(dT t1))],[],24⟩) (fun _ h=>h) ?_ ?_;rotate_left
 ·rintro _ rfl;show T X _ _ _;refine T.ret ?_;obtain rfl:=osi h0;exact rO [] [4] rfl undef (cT rfl ResL.nil) rfl rfl rfl rfl
 refine T.region ?_;iterate 6 refine aA rfl rfl ?_
 rcases ite_some ht1 with ⟨c2,ht1⟩|⟨c2,ht1⟩;rotate_left
 ·refine TL.off rfl rfl rfl rfl (beq_eq_false_iff_ne.2 c2) rfl rfl ?_;refine TL.off rfl rfl rfl rfl (beq_eq_false_iff_ne.2 c2) rfl rfl ?_;refine TL.off rfl rfl rfl rfl (beq_eq_false_iff_ne.2 c2) rfl rfl ?_;refine TL.off rfl rfl rfl rfl (beq_eq_false_iff_ne.2 c2) rfl rfl ?_;refine TL.off rfl rfl rfl rfl (beq_eq_false_iff_ne.2 c2) rfl rfl ?_;refine TL.op1 (OpR.pickF rfl (beq_eq_false_iff_ne.2 c2) rfl) rfl ?_;refine aA rfl rfl ?_;refine TL.off rfl rfl rfl rfl rfl rfl rfl ?_;refine TL.off rfl rfl rfl rfl rfl rfl rfl ?_;refine TL.off rfl rfl rfl rfl rfl rfl rfl ?_;refine TL.off rfl rfl rfl rfl rfl rfl rfl ?_;refine TL.off rfl rfl rfl rfl rfl rfl rfl ?_;refine TL.op1 (OpR.pickF rfl rfl rfl) rfl ?_;refine aA rfl rfl ?_;refine TL.nil ?_;obtain rfl:=osi ht1;exact⟨_,Gst.only [4] rfl,rfl⟩
 refine TL.on rfl rfl rfl rfl (beq_iff_eq.2 c2) ?_;refine aA rfl rfl ?_;refine TL.on rfl rfl rfl rfl (beq_iff_eq.2 c2) ?_;refine aA rfl rfl ?_;refine TL.on rfl rfl rfl rfl (beq_iff_eq.2 c2) ?_;refine aA rfl rfl ?_;refine TL.on rfl rfl rfl rfl (beq_iff_eq.2 c2) ?_;refine aA rfl rfl ?_;refine TL.on rfl rfl rfl rfl (beq_iff_eq.2 c2) ?_;refine TL.op1 (OpR.eqBool rfl rfl rfl rfl) rfl ?_;refine TL.op1 (OpR.pickT rfl (beq_iff_eq.2 c2) rfl) rfl ?_;refine aA rfl rfl ?_;rcases ite_some ht1 with ⟨c3,ht1⟩|⟨c3,ht1⟩;rotate_left
 ·refine TL.off rfl rfl rfl rfl (eq_false_of_ne_true c3) rfl rfl ?_;refine TL.off rfl rfl rfl rfl (eq_false_of_ne_true c3) rfl rfl ?_;refine TL.off rfl rfl rfl rfl (eq_false_of_ne_true c3) rfl rfl ?_;refine TL.off rfl rfl rfl rfl (eq_false_of_ne_true c3) rfl rfl ?_;refine TL.off rfl rfl rfl rfl (eq_false_of_ne_true c3) rfl rfl ?_;refine TL.op1 (OpR.pickF rfl (eq_false_of_ne_true c3) rfl) rfl ?_;refine aA rfl rfl ?_;refine TL.nil ?_;obtain rfl:=osi ht1;exact⟨_,Gst.only [4] rfl,rfl⟩
 refine TL.on rfl rfl rfl rfl (c3) ?_;refine aA rfl rfl ?_;refine TL.on rfl rfl rfl rfl (c3) ?_;refine aA rfl rfl ?_;refine TL.on rfl rfl rfl rfl (c3) ?_;refine aA rfl rfl ?_;refine TL.on rfl rfl rfl rfl (c3) ?_;refine aA rfl rfl ?_;refine TL.on rfl rfl rfl rfl (c3) ?_;obtain⟨x4,hx4,ht1⟩:=bS ht1;refine TL.op1 (OpR.call0 fn30 (ref07_Same_c hx4) rfl) rfl ?_;refine TL.op1 (OpR.pickT rfl (c3) rfl) rfl ?_;refine aA rfl rfl ?_;refine TL.nil ?_;obtain rfl:=osi ht1;exact⟨_,Gst.only [4] rfl,rfl⟩
noncomputable def ref11_Same.l1 (a0:ref11_Grid) (a1:ref11_Grid) (s7:Int):Option (Lp Int (Ex Unit Bool)):=
 if s7<(a0.fRows.length:Int) then
 bnd (idx a0.fRows s7) fun x17=>
 bnd (idx a1.fRows s7) fun x18=>
 bnd (ref08_Same x17 x18) fun x19=>
 if x19=true then
 some (Lp.next (w64 (s7+1)))
else
 some (Lp.done (Ex.ret false))
else
 some (Lp.done (Ex.brk ()))
noncomputable def ref11_Same (a0:ref11_Grid) (a1:ref11_Grid):Option Bool:=
 bnd (if (a0.fRows.length:Int)=(a1.fRows.length:Int) then
 if (a0.fTail==a1.fTail)=true then
 some (!(a0.fEnd==a1.fEnd))
else
 some true
else
 some true:Option Bool) fun t1=>
 if t1=true then
 some false
else
 bnd (loop (ref11_Same.l1 a0 a1) 0:Option (Ex Unit Bool)) fun t5=>match t5 with
| .brk u6=>
 some true
| .ret u6=>some u6
theorem ref11_Same_c {a0:ref11_Grid} {a1:ref11_Grid} {res:Bool} (h0:ref11_Same a0 a1=some res):CallF X 18 [.agg [.sl 3 (List.map e_ref08_Row a0.fRows),dT a0.fTail,dN a0.fEnd],.agg [.sl 3 (List.map e_ref08_Row a1.fRows),dT a1.fTail,dN a1.fEnd]] [] (fun x=>(dT res)) (fun x=>[]):=by
 unfold ref11_Same at h0;refine CallF.mkG (X:=X) rfl Tryz.func18 rfl rfl Tryz.ntmps18 rfl rfl ?_;refine aS ?_;refine TL.op1 (OpR.boxImm rfl rfl) rfl ?_;refine TL.op1 (OpR.boxImm rfl rfl) rfl ?_;refine aA rfl rfl ?_;refine aN rfl ?_;refine T.seq ?_;refine T.seq ?_;obtain⟨t1,ht1,h0⟩:=bS h0;refine T.cutC (fun S'=>S'=⟨[(26,(dT t1)),(4,(dT false)),(3,.nod [.sl 3 (List.map e_ref08_Row a1.fRows),dT a1.fTail,dN a1.fEnd]),(2,.nod [.sl 3 (List.map e_ref08_Row a0.fRows),dT a0.fTail,dN a0.fEnd])],[],46⟩) (fun _ h=>h) ?_ ?_
 ·refine T.region ?_;iterate 2 refine aA rfl rfl ?_
  refine TL.op1 (OpR.cast (OpR.pure rfl) (intE (lenM _ _))) rfl ?_;iterate 2 refine aA rfl rfl ?_
  refine TL.op1 (OpR.cast (OpR.pure rfl) (intE (lenM _ _))) rfl ?_;iterate 2 refine aA rfl rfl ?_
  rcases ite_some ht1 with ⟨c2,ht1⟩|⟨c2,ht1⟩;rotate_left
  ·refine TL.off rfl rfl rfl rfl (not_f (beq_eq_false_iff_ne.2 c2)) rfl rfl ?_;refine TL.off rfl rfl rfl rfl (not_f (beq_eq_false_iff_ne.2 c2)) rfl rfl ?_;refine TL.off rfl rfl rfl rfl (not_f (beq_eq_false_iff_ne.2 c2)) rfl rfl ?_;refine TL.off rfl rfl rfl rfl (not_f (beq_eq_false_iff_ne.2 c2)) rfl rfl ?_;refine TL.off rfl rfl rfl rfl (not_f (beq_eq_false_iff_ne.2 c2)) rfl rfl ?_;refine TL.op1 (OpR.pickT rfl (not_f (beq_eq_false_iff_ne.2 c2)) rfl) rfl ?_;refine aA rfl rfl ?_;refine TL.off rfl rfl rfl rfl rfl rfl rfl ?_;refine TL.off rfl rfl rfl rfl rfl rfl rfl ?_;refine TL.off rfl rfl rfl rfl rfl rfl rfl ?_;refine TL.off rfl rfl rfl rfl rfl rfl rfl ?_;refine TL.off rfl rfl rfl rfl rfl rfl rfl ?_;refine TL.op1 (OpR.pickT rfl rfl rfl) rfl ?_;refine TL.nil ?_;obtain rfl:=osi ht1;exact⟨_,Gst.only [2,3,4,26] rfl,rfl⟩
  refine TL.on rfl rfl rfl rfl (not_t (beq_iff_eq.2 c2)) ?_;refine aA rfl rfl ?_;refine TL.on rfl rfl rfl rfl (not_t (beq_iff_eq.2 c2)) ?_;refine aA rfl rfl ?_;refine TL.on rfl rfl rfl rfl (not_t (beq_iff_eq.2 c2)) ?_;refine aA rfl rfl ?_;refine TL.on rfl rfl rfl rfl (not_t (beq_iff_eq.2 c2)) ?_;refine aA rfl rfl ?_;refine TL.on rfl rfl rfl rfl (not_t (beq_iff_eq.2 c2)) ?_;refine TL.op1 (OpR.neBool rfl rfl rfl rfl) rfl ?_;refine TL.op1 (OpR.pickF rfl (not_t (beq_iff_eq.2 c2)) rfl) rfl ?_;refine aA rfl rfl ?_;rcases ite_some ht1 with ⟨c3,ht1⟩|⟨c3,ht1⟩;rotate_left
  ·refine TL.off rfl rfl rfl rfl (not_f (eq_false_of_ne_true c3)) rfl rfl ?_;refine TL.off rfl rfl rfl rfl (not_f (eq_false_of_ne_true c3)) rfl rfl ?_;refine TL.off rfl rfl rfl rfl (not_f (eq_false_of_ne_true c3)) rfl rfl ?_;refine TL.off rfl rfl rfl rfl (not_f (eq_false_of_ne_true c3)) rfl rfl ?_;refine TL.off rfl rfl rfl rfl (not_f (eq_false_of_ne_true c3)) rfl rfl ?_;refine TL.op1 (OpR.pickT rfl (not_f (eq_false_of_ne_true c3)) rfl) rfl ?_;refine TL.nil ?_;obtain rfl:=osi ht1;exact⟨_,Gst.only [2,3,4,26] rfl,rfl⟩
  refine TL.on rfl rfl rfl rfl (not_t (c3)) ?_;refine aA rfl rfl ?_;refine TL.on rfl rfl rfl rfl (not_t (c3)) ?_;refine aA rfl rfl ?_;refine TL.on rfl rfl rfl rfl (not_t (c3)) ?_;refine aA rfl rfl ?_;refine TL.on rfl rfl rfl rfl (not_t (c3)) ?_;refine aA rfl rfl ?_;refine TL.on rfl rfl rfl rfl (not_t (c3)) ?_;refine aA rfl rfl ?_;refine TL.op1 (OpR.pickF rfl (not_t (c3)) rfl) rfl ?_;refine TL.nil ?_;obtain rfl:=osi ht1;exact⟨_,Gst.only [2,3,4,26] rfl,rfl⟩
 rintro _ rfl;show T X _ _ _;rcases ite_some h0 with ⟨c4,h0⟩|⟨c4,h0⟩
 ·refine T.condT rfl (c4) ?_;refine aS ?_;refine aA rfl rfl ?_;refine aN rfl ?_;refine T.ret ?_;obtain rfl:=osi h0;exact rO [] [4] rfl undef (cT rfl ResL.nil) rfl rfl rfl rfl
 refine T.condF rfl (eq_false_of_ne_true c4) ?_;refine aK rfl ?_;refine T.seq ?_;refine aS ?_;iterate 2 refine aA rfl rfl ?_
 refine TL.op1 (OpR.cast (OpR.pure rfl) (intE (lenM _ _))) rfl ?_;refine aA rfl rfl ?_;refine aN rfl ?_;obtain⟨t5,ht5,h0⟩:=bS h0;refine T.cutC (fun S'=>∃ u6,t5=Ex.brk u6∧S'=⟨[(4,(dT false))],[],46⟩) (fun _ h=>h) ?_ ?_;rotate_left
 ·rintro _ ⟨u6,rfl,rfl⟩;show T X _ _ _;refine aS ?_;refine aA rfl rfl ?_;refine aN rfl ?_;refine T.ret ?_;obtain rfl:=osi h0;exact rO [] [4] rfl undef (cT rfl ResL.nil) rfl rfl rfl rfl
 refine T.block ?_;obtain⟨n8,n13⟩:=loop_some ht5;refine T.loop (fun n S'=>∃ S'',Gst S' S''∧∃ s7:Int,S''=⟨[(30,(dN s7)),(29,(dN (a0.fRows.length:Int))),(4,(dT false)),(3,.nod [.sl 3 (List.map e_ref08_Row a1.fRows),dT a1.fTail,dN a1.fEnd]),(2,.nod [.sl 3 (List.map e_ref08_Row a0.fRows),dT a0.fTail,dN a0.fEnd])],[],46⟩∧iter (ref11_Same.l1 a0 a1) n s7=some t5) n8 ?_ ?_
 ·exact⟨_,Gst.only [2,3,4,29,30] rfl,0,rfl,n13⟩
 rintro n8 _ ⟨_,g,s7,rfl,i12⟩;refine T.ghost g ?_;obtain⟨m9,q10,rfl,q11,i12⟩:=iter_succ i12;unfold ref11_Same.l1 at q11;refine aS ?_;refine aA rfl rfl ?_;refine aN rfl ?_;refine T.seq ?_;rcases ite_some q11 with ⟨c15,q11⟩|⟨c15,q11⟩;rotate_left
 ·refine T.condF rfl (eF c15) ?_;refine T.exit ?_;obtain rfl:=osi q11;obtain rfl:_=_:=i12;exact⟨_,Gst.only [4] rfl,_,rfl,rfl⟩
 refine T.condT rfl (eT c15) ?_;refine aK rfl ?_;refine T.seq ?_;refine T.block ?_;refine aS ?_;iterate 2 refine aA rfl rfl ?_
 refine aN rfl ?_;refine T.seq ?_;obtain⟨x17,hx17,q11⟩:=bS q11;obtain⟨x18,hx18,q11⟩:=bS q11;obtain⟨x19,hx19,q11⟩:=bS q11;refine T.drawQ drawsX [.nod [.sl 3 (List.map e_ref08_Row a0.fRows),dT a0.fTail,dN a0.fEnd],.sl 3 (List.map e_ref08_Row a0.fRows),dN s7,.nod [.sl 3 (List.map e_ref07_Cell x17.fCells),dN x17.fEnd,dT x17.fHidden],.agg [.sl 3 (List.map e_ref07_Cell x17.fCells),dN x17.fEnd,dT x17.fHidden],.nod [.sl 3 (List.map e_ref08_Row a1.fRows),dT a1.fTail,dN a1.fEnd],.sl 3 (List.map e_ref08_Row a1.fRows),dN s7,.nod [.sl 3 (List.map e_ref07_Cell x18.fCells),dN x18.fEnd,dT x18.fHidden],.agg [.sl 3 (List.map e_ref07_Cell x18.fCells),dN x18.fEnd,dT x18.fHidden],dT x19,dT (!x19)] [2,3,4,29,30,44] (by decide +kernel) rfl ?_ rfl ?_;rotate_left
 ·show T X _ _ _;rcases ite_some q11 with ⟨c20,q11⟩|⟨c20,q11⟩
  ·refine T.condF rfl (not_t (c20)) ?_;refine aK rfl ?_;refine T.region ?_;iterate 2 refine aA rfl rfl ?_
   refine TL.nil ?_;obtain rfl:=osi q11;exact⟨m9,Nat.lt_succ_self _,_,Gst.only [2,3,4,29,30] rfl,w64 (s7+1),rfl,i12⟩
  refine T.condT rfl (not_f (eq_false_of_ne_true c20)) ?_;refine aS ?_;refine aA rfl rfl ?_;refine aN rfl ?_;refine T.ret ?_;obtain rfl:=osi q11;obtain rfl:_=_:=i12;obtain rfl:=osi h0;exact rO [] [4] rfl undef (cT rfl ResL.nil) rfl rfl rfl rfl
 iterate 3 refine aB rfl rfl rfl ?_
 refine OpsQ.yes (Want.plain rfl) rfl (OpR.indexM e_ref08_Row hx17 rfl rfl rfl rfl rfl) ?_;iterate 4 refine aB rfl rfl rfl ?_
 refine OpsQ.yes (Want.plain rfl) rfl (OpR.indexM e_ref08_Row hx18 rfl rfl rfl rfl rfl) ?_;refine aB rfl rfl rfl ?_;refine OpsQ.yes (Want.plain rfl) rfl (OpR.call0 fn65 (ref08_Same_c hx19) rfl) ?_;refine aB rfl rfl rfl ?_;exact OpsQ.nil
noncomputable def filter_All_1 (a0:row_Row):Option Bool:=
 some false
theorem filter_All_1_c {a0:row_Row} {res:Bool} (h0:filter_All_1 a0=some res):CallF X 123 [.agg [.sl 5 (List.map e_cell_Cell a0.fCells),dN a0.fEnd,dT a0.fHidden]] [] (fun x=>(dT res)) (fun x=>[]):=by
 unfold filter_All_1 at h0;refine CallF.mkG (X:=X) rfl Tryz.func123 rfl rfl Tryz.ntmps123 rfl rfl ?_;refine aS ?_;refine TL.op1 (OpR.boxImm rfl rfl) rfl ?_;refine aA rfl rfl ?_;refine aN rfl ?_;refine aS ?_;refine aA rfl rfl ?_;refine aN rfl ?_;refine T.ret ?_;obtain rfl:=osi h0;exact rO [] [2] rfl undef (cT rfl ResL.nil) rfl rfl rfl rfl
noncomputable def filter_hide_1_2 (a0:Int) (a1:row_Row):Option row_Row:=
 bnd (filter_All_1 a1) fun x3=>
 bnd (row_Row_Hide a1 x3) fun x4=>
 some x4
theorem filter_hide_1_2_c {a0:Int} {a1:row_Row} {b0:Nat} {res:row_Row} (h0:filter_hide_1_2 a0 a1=some res):CallF X 185 [dN a0,.agg [.sl 5 (List.map e_cell_Cell a1.fCells),dN a1.fEnd,dT a1.fHidden],dP b0] [.var b0 [.fn (.func 123) [] []] 130] (fun x=>.agg [.sl 5 (List.map e_cell_Cell res.fCells),dN res.fEnd,dT res.fHidden]) (fun x=>[.var b0 [.fn (.func 123) [] []] 130]):=by
 unfold filter_hide_1_2 at h0;refine CallF.mkG (X:=X) rfl Tryz.func185 rfl rfl Tryz.ntmps185 rfl rfl ?_;refine aS ?_;refine TL.op1 (OpR.boxImm rfl rfl) rfl ?_;refine TL.op (OpR.alloc rfl rfl (fun _=>rfl)) rfl (fun p1=>?_);refine aN rfl ?_;refine T.seq ?_;obtain⟨x3,hx3,h0⟩:=bS h0;obtain⟨x4,hx4,h0⟩:=bS h0;refine T.drawS drawsX (fun env2=>[.agg [.sl 5 (List.map e_cell_Cell a1.fCells),dN a1.fEnd,dT a1.fHidden],.fn (.func 123) [] [],.agg [.sl 5 (List.map e_cell_Cell a1.fCells),dN a1.fEnd,dT a1.fHidden],dT x3,.agg [.sl 5 (List.map e_cell_Cell x4.fCells),dN x4.fEnd,dT x4.fHidden],.dead]) (fun D env2=>[.var b0 [.fn (.func 123) [] []] 130,(bif D 5 then .var (blk p1) [.sl 5 (List.map e_cell_Cell x4.fCells),dN x4.fEnd,dT x4.fHidden] 49 else .var (blk p1) [.val (.slice none 0 0),dN 0,dT false] 49)]) [0,0,0,6,15,31] [5] _ (by decide +kernel) (by decide +kernel) (fun _=>rfl) (fun _=>rfl) ?_ (fun _=>rfl) (fun _=>rfl) ?_;rotate_left
 ·intro env2;show T X _ _ _;refine T.ret ?_;obtain rfl:=osi h0;exact rO [0] [5] rfl undef (cV 1 rfl rfl rfl rfl ResL.nil) rfl rfl rfl rfl
 refine aC ?_;refine oT (.fn (.func 123) [] []) (fun _ _=>OpR.loadPtr 0 rfl rfl rfl rfl) ?_;refine aC ?_;refine oT ((dT x3)) (fun _ _=>OpR.callV [] rfl fn123 (filter_All_1_c hx3) rfl rfl rfl (fun _=>rfl)) ?_;refine oT (.agg [.sl 5 (List.map e_cell_Cell x4.fCells),dN x4.fEnd,dT x4.fHidden]) (fun _ _=>OpR.call0 fn121 (row_Row_Hide_c hx4) rfl) ?_;refine OpsS.cons' true ?_ (fun _ _ _ _ _ _ _=>rfl) ?_
 ·intro D env2 hA;exact OpS.yp [(5,false)] ⟨hA.me,trivial⟩ (Want.plain rfl) (OpR.store 1 rfl rfl rfl rfl rfl rfl rfl rfl) (fun x=>rfl) (fun x=>rfl)
 exact trivial
noncomputable def walk_Map_row_Row_2.l1 (x3:(List row_Row)) (s6:Int × (List row_Row)):Option (Lp (Int × (List row_Row)) (List row_Row)):=
 if s6.1<(x3.length:Int) then
 bnd (idx s6.2 s6.1) fun x15=>
 bnd (filter_hide_1_2 s6.1 x15) fun x17=>
 some (Lp.next (w64 (s6.1+1),(s6.2.set s6.1.toNat x17)))
else
 some (Lp.done s6.2)
noncomputable def walk_Map_row_Row_2 (a0:tTr):Option tTr:=
 bnd (walk_All_row_Row a0) fun x2=>
 bnd (slices_Clone_row_Row_row_Row x2) fun x3=>
 bnd (loop (walk_Map_row_Row_2.l1 x3) (0,x3):Option (List row_Row)) fun t5=>
 bnd (tree_Of_row_Row t5) fun x18=>
 some x18
theorem walk_Map_row_Row_2_c {a0:tTr} {b0:Nat} {res:tTr} (h0:walk_Map_row_Row_2 a0=some res):CallF X 137 [.agg [(eOP a0.fRoot)],.fn (.func 185) [] [dP b0]] [.var b0 [.fn (.func 123) [] []] 130] (fun x=>.agg [(eOP res.fRoot)]) (fun x=>[.var b0 [.fn (.func 123) [] []] 130]):=by
 unfold walk_Map_row_Row_2 at h0;refine CallF.mkG (X:=X) rfl Tryz.func137 rfl rfl Tryz.ntmps137 rfl rfl ?_;refine aS ?_;refine TL.op1 (OpR.boxImm rfl rfl) rfl ?_;refine TL.op (OpR.alloc rfl rfl (fun _=>rfl)) rfl (fun p1=>?_);refine aN rfl ?_;refine aS ?_;refine aA rfl rfl ?_;obtain⟨x2,hx2,h0⟩:=bS h0;refine TL.op1 (OpR.call0 fn100 (walk_All_row_Row_c hx2) rfl) rfl ?_;obtain⟨x3,hx3,h0⟩:=bS h0;refine TL.op (OpR.call [] fn191 (slices_Clone_row_Row_row_Row_c hx3) rfl rfl rfl (fun _=>rfl)) rfl (fun w4=>?_);refine aA rfl rfl ?_;refine aN rfl ?_;refine T.seq ?_;refine aS ?_;refine aA rfl rfl ?_;refine TL.op1 (OpR.rowLenM e_row_Row 2 rfl rfl rfl rfl) rfl ?_;refine aA rfl rfl ?_;refine aN rfl ?_;obtain⟨t5,ht5,h0⟩:=bS h0;refine T.cutC (fun S'=>S'=⟨[(5,.val (vn w4 0)),(4,(dP (blk p1)))],[.var b0 [.fn (.func 123) [] []] 130,.var (blk p1) [(eOP none)] 25,.row (vn w4 0) (List.map e_row_Row t5) 3 49],28⟩) (fun _ h=>h) ?_ ?_;rotate_left
 ·rintro _ rfl;show T X _ _ _;refine aS ?_;refine aA rfl rfl ?_;refine TL.ghost (Gst.freezeRow 2 rfl rfl (ReS.cons (Re.base .all) (ReS.refl _)) (ReO.same (ReO.same (ReO.same ReO.nil)))) ?_;obtain⟨x18,hx18,h0⟩:=bS h0;refine TL.op1 (OpR.call0 fn101 (tree_Of_row_Row_c hx18) rfl) rfl ?_;refine TL.op0 (OpR.store 1 rfl rfl rfl rfl rfl rfl rfl rfl) ?_;refine aN rfl ?_;refine T.ret ?_;obtain rfl:=osi h0;exact rP [0] [4] [0,1] rfl rfl rfl undef (cV 1 rfl rfl rfl rfl ResL.nil) rfl rfl rfl rfl
 refine T.block ?_;obtain⟨n7,n12⟩:=loop_some ht5;refine T.loop (fun n S'=>∃ S'',Gst S' S''∧∃ s6:Int × (List row_Row),S''=⟨[(13,(dN s6.1)),(12,(dN (x3.length:Int))),(11,.val (vn w4 0)),(5,.val (vn w4 0)),(4,(dP (blk p1))),(1,.fn (.func 185) [] [dP b0])],[.var b0 [.fn (.func 123) [] []] 130,.var (blk p1) [(eOP none)] 25,.row (vn w4 0) (List.map e_row_Row s6.2) 3 49],28⟩∧iter (walk_Map_row_Row_2.l1 x3) n s6=some t5) n7 ?_ ?_
 ·exact⟨_,Gst.only [1,4,5,11,12,13] rfl,(0,x3),rfl,n12⟩
 rintro n7 _ ⟨_,g,s6,rfl,i11⟩;refine T.ghost g ?_;obtain⟨m8,q9,rfl,q10,i11⟩:=iter_succ i11;unfold walk_Map_row_Row_2.l1 at q10;refine aS ?_;refine aA rfl rfl ?_;refine aN rfl ?_;refine T.seq ?_;rcases ite_some q10 with ⟨c14,q10⟩|⟨c14,q10⟩;rotate_left
 ·refine T.condF rfl (eF c14) ?_;refine T.exit ?_;obtain rfl:=osi q10;obtain rfl:_=_:=i11;exact⟨_,Gst.only [4,5] rfl,rfl⟩
 refine T.condT rfl (eT c14) ?_;refine aK rfl ?_;refine T.seq ?_;refine T.block ?_;refine aS ?_;refine aA rfl rfl ?_;obtain⟨x15,hx15,q10⟩:=bS q10;refine TL.op1 (OpR.rowIndexM e_row_Row 2 hx15 rfl rfl rfl rfl rfl rfl rfl) rfl ?_;refine TL.op1 (OpR.rowLoad0M (j:=s6.1) e_row_Row 2 hx15 rfl rfl rfl rfl) rfl ?_;refine TL.op (OpR.alloc rfl rfl (fun _=>rfl)) rfl (fun p16=>?_);refine aA rfl rfl ?_;refine TL.op0 (OpR.store 3 rfl rfl rfl rfl rfl rfl rfl rfl) ?_;refine aN rfl ?_;refine T.region ?_;iterate 4 refine aA rfl rfl ?_
 refine TL.op1 (OpR.loadPtr 3 rfl rfl rfl rfl) rfl ?_;obtain⟨x17,hx17,q10⟩:=bS q10;refine TL.op1 (OpR.callV [0] rfl fn185 (filter_hide_1_2_c hx17) rfl rfl rfl (fun _=>rfl)) rfl ?_;refine TL.op1 (OpR.rowIndexM e_row_Row 2 hx15 rfl rfl rfl rfl rfl rfl rfl) rfl ?_;refine TL.op0 (OpR.rowStore0M (j:=s6.1) e_row_Row x17 2 hx15 rfl rfl rfl rfl rfl rfl rfl rfl rfl) ?_;refine aN rfl ?_;refine T.region ?_;iterate 2 refine aA rfl rfl ?_
 refine TL.nil ?_;obtain rfl:=osi q10;exact⟨m8,Nat.lt_succ_self _,_,gP [1,4,5,11,12,13] [0,1,2] rfl rfl rfl,(w64 (s6.1+1),(s6.2.set s6.1.toNat x17)),rfl,i11⟩
noncomputable def filter_hide_2 (a0:grid_Grid):Option grid_Grid:=
 bnd (walk_Map_row_Row_2 a0.fRows) fun x4=>
 some (⟨x4,a0.fTail,a0.fEnd⟩:grid_Grid)
theorem filter_hide_2_c {a0:grid_Grid} {res:grid_Grid} (h0:filter_hide_2 a0=some res):CallF X 116 [.agg [(eOP a0.fRows.fRoot),dT a0.fTail,dN a0.fEnd],.fn (.func 123) [] []] [] (fun x=>.agg [(eOP res.fRows.fRoot),dT res.fTail,dN res.fEnd]) (fun x=>[]):=by
 unfold filter_hide_2 at h0;refine CallF.mkG (X:=X) rfl Tryz.func116 rfl rfl Tryz.ntmps116 rfl rfl ?_;refine aS ?_;refine TL.op (OpR.boxVar rfl rfl (fun _=>rfl)) rfl (fun p1=>?_);refine TL.op (OpR.boxVar rfl rfl (fun _=>rfl)) rfl (fun p2=>?_);refine TL.op (OpR.alloc rfl rfl (fun _=>rfl)) rfl (fun p3=>?_);refine aN rfl ?_;refine aS ?_;refine aA rfl rfl ?_;refine TL.op1 (OpR.loadPtr 0 rfl rfl rfl rfl) rfl ?_;refine aA rfl rfl ?_;obtain⟨x4,hx4,h0⟩:=bS h0;refine TL.op1 (OpR.call [1] fn137 (walk_Map_row_Row_2_c hx4) rfl rfl rfl (fun _=>rfl)) rfl ?_;refine aA rfl rfl ?_;refine TL.op0 (OpR.store 0 rfl rfl rfl rfl rfl rfl rfl rfl) ?_;refine aN rfl ?_;refine aS ?_;refine TL.op1 (OpR.loadPtr 0 rfl rfl rfl rfl) rfl ?_;refine TL.op0 (OpR.store 2 rfl rfl rfl rfl rfl rfl rfl rfl) ?_;refine aN rfl ?_;refine T.ret ?_;obtain rfl:=osi h0;exact rP [] [4] [2] rfl rfl rfl undef (cV 0 rfl rfl rfl rfl ResL.nil) rfl rfl rfl rfl
noncomputable def filter_All (a0:grid_Grid):Option grid_Grid:=
 bnd (filter_hide_2 a0) fun x2=>
 some x2
theorem filter_All_c {a0:grid_Grid} {res:grid_Grid} (h0:filter_All a0=some res):CallF X 53 [.agg [(eOP a0.fRows.fRoot),dT a0.fTail,dN a0.fEnd]] [] (fun x=>.agg [(eOP res.fRows.fRoot),dT res.fTail,dN res.fEnd]) (fun x=>[]):=by
 unfold filter_All at h0;refine CallF.mkG (X:=X) rfl Tryz.func53 rfl rfl Tryz.ntmps53 rfl rfl ?_;refine aS ?_;refine TL.op1 (OpR.boxImm rfl rfl) rfl ?_;refine TL.op (OpR.alloc rfl rfl (fun _=>rfl)) rfl (fun p1=>?_);refine aN rfl ?_;refine aS ?_;refine aA rfl rfl ?_;obtain⟨x2,hx2,h0⟩:=bS h0;refine TL.op1 (OpR.call0 fn116 (filter_hide_2_c hx2) rfl) rfl ?_;refine TL.op0 (OpR.store 0 rfl rfl rfl rfl rfl rfl rfl rfl) ?_;refine aN rfl ?_;refine T.ret ?_;obtain rfl:=osi h0;exact rO [] [2] rfl undef (cV 0 rfl rfl rfl rfl ResL.nil) rfl rfl rfl rfl
noncomputable def internal_stringslite_HasPrefix (a0:List UInt8) (a1:List UInt8):Option Bool:=
 bnd (if (a0.length:Int)≥(a1.length:Int) then
 bnd (cut a0 0 (a1.length:Int)) fun x3=>
 some (x3==a1)
else
 some false:Option Bool) fun t1=>
 some t1
theorem internal_stringslite_HasPrefix_c {a0:List UInt8} {a1:List UInt8} {res:Bool} (h0:internal_stringslite_HasPrefix a0 a1=some res):CallF X 203 [.val (.string (bs a0)),.val (.string (bs a1))] [] (fun x=>(dT res)) (fun x=>[]):=by
 unfold internal_stringslite_HasPrefix at h0;refine CallF.mkG (X:=X) rfl Tryz.func203 rfl rfl Tryz.ntmps203 rfl rfl ?_;refine aS ?_;refine aA rfl rfl ?_;refine aN rfl ?_;refine T.seq ?_;obtain⟨t1,ht1,h0⟩:=bS h0;refine T.cutC (fun S'=>S'=⟨[(4,(dT t1))],[],18⟩) (fun _ h=>h) ?_ ?_;rotate_left
 ·rintro _ rfl;show T X _ _ _;refine T.ret ?_;obtain rfl:=osi h0;exact rO [] [4] rfl undef (cT rfl ResL.nil) rfl rfl rfl rfl
 refine T.region ?_;refine aA rfl rfl ?_;refine TL.op1 (OpR.cast (OpR.pure rfl) (intE (lenS _))) rfl ?_;refine aA rfl rfl ?_;refine TL.op1 (OpR.cast (OpR.pure rfl) (intE (lenS _))) rfl ?_;iterate 2 refine aA rfl rfl ?_
 rcases ite_some ht1 with ⟨c2,ht1⟩|⟨c2,ht1⟩;rotate_left
 ·refine TL.off rfl rfl rfl rfl (eF c2) rfl rfl ?_;refine TL.off rfl rfl rfl rfl (eF c2) rfl rfl ?_;refine TL.off rfl rfl rfl rfl (eF c2) rfl rfl ?_;refine TL.off rfl rfl rfl rfl (eF c2) rfl rfl ?_;refine TL.off rfl rfl rfl rfl (eF c2) rfl rfl ?_;refine TL.off rfl rfl rfl rfl (eF c2) rfl rfl ?_;refine TL.op1 (OpR.pickF rfl (eF c2) rfl) rfl ?_;refine aA rfl rfl ?_;refine TL.nil ?_;obtain rfl:=osi ht1;exact⟨_,Gst.only [4] rfl,rfl⟩
 refine TL.on rfl rfl rfl rfl (eT c2) ?_;refine aA rfl rfl ?_;refine TL.on rfl rfl rfl rfl (eT c2) ?_;refine aA rfl rfl ?_;refine TL.on rfl rfl rfl rfl (eT c2) ?_;refine TL.op1 (OpR.cast (OpR.pure rfl) (intE (lenS _))) rfl ?_;refine TL.on rfl rfl rfl rfl (eT c2) ?_;obtain⟨x3,hx3,ht1⟩:=bS ht1;refine TL.op1 (OpR.sliceS hx3 rfl rfl rfl BdM.none (BdM.some rfl)) rfl ?_;refine TL.on rfl rfl rfl rfl (eT c2) ?_;refine aA rfl rfl ?_;refine TL.on rfl rfl rfl rfl (eT c2) ?_;refine TL.op1 (OpR.cast (OpR.pure rfl) (boolE (strEq _ _))) rfl ?_;refine TL.op1 (OpR.pickT rfl (eT c2) rfl) rfl ?_;refine aA rfl rfl ?_;refine TL.nil ?_;obtain rfl:=osi ht1;exact⟨_,Gst.only [4] rfl,rfl⟩
noncomputable def internal_stringslite_CutPrefix (a0:List UInt8) (a1:List UInt8):Option ((List UInt8) × Bool):=
 bnd (internal_stringslite_HasPrefix a0 a1) fun x1=>
 if x1=true then
 bnd (cut a0 (a1.length:Int) (a0.length:Int)) fun x3=>
 some (x3,true)
else
 some (a0,false)
theorem internal_stringslite_CutPrefix_c {a0:List UInt8} {a1:List UInt8} {res:(List UInt8) × Bool} (h0:internal_stringslite_CutPrefix a0 a1=some res):CallF X 164 [.val (.string (bs a0)),.val (.string (bs a1))] [] (fun x=>.tup [.val (.string (bs res.1)),dT res.2]) (fun x=>[]):=by
 unfold internal_stringslite_CutPrefix at h0;refine CallF.mkG (X:=X) rfl Tryz.func164 rfl rfl Tryz.ntmps164 rfl rfl ?_;refine aS ?_;iterate 2 refine aA rfl rfl ?_
 refine aN rfl ?_;refine T.seq ?_;refine aS ?_;iterate 2 refine aA rfl rfl ?_
 obtain⟨x1,hx1,h0⟩:=bS h0;refine TL.op1 (OpR.call0 fn203 (internal_stringslite_HasPrefix_c hx1) rfl) rfl ?_;refine aA rfl rfl ?_;refine aN rfl ?_;rcases ite_some h0 with ⟨c2,h0⟩|⟨c2,h0⟩;rotate_left
 ·refine T.condT rfl (not_f (eq_false_of_ne_true c2)) ?_;refine aS ?_;iterate 3 refine aA rfl rfl ?_
  refine aN rfl ?_;refine T.ret ?_;obtain rfl:=osi h0;exact rO [] [4,5] rfl undef (cT rfl (cT rfl ResL.nil)) rfl rfl rfl rfl
 refine T.condF rfl (not_t (c2)) ?_;refine aK rfl ?_;refine aS ?_;iterate 2 refine aA rfl rfl ?_
 refine TL.op1 (OpR.cast (OpR.pure rfl) (intE (lenS _))) rfl ?_;obtain⟨x3,hx3,h0⟩:=bS h0;refine TL.op1 (OpR.sliceS hx3 rfl rfl rfl (BdM.some rfl) BdM.none) rfl ?_;iterate 2 refine aA rfl rfl ?_
 refine aN rfl ?_;refine T.ret ?_;obtain rfl:=osi h0;exact rO [] [4,5] rfl undef (cT rfl (cT rfl ResL.nil)) rfl rfl rfl rfl
noncomputable def strings_CutPrefix (a0:List UInt8) (a1:List UInt8):Option ((List UInt8) × Bool):=
 bnd (internal_stringslite_CutPrefix a0 a1) fun x1=>
 some (x1.1,x1.2)
theorem strings_CutPrefix_c {a0:List UInt8} {a1:List UInt8} {res:(List UInt8) × Bool} (h0:strings_CutPrefix a0 a1=some res):CallF X 92 [.val (.string (bs a0)),.val (.string (bs a1))] [] (fun x=>.tup [.val (.string (bs res.1)),dT res.2]) (fun x=>[]):=by
 unfold strings_CutPrefix at h0;refine CallF.mkG (X:=X) rfl Tryz.func92 rfl rfl Tryz.ntmps92 rfl rfl ?_;refine aS ?_;iterate 2 refine aA rfl rfl ?_
 refine aN rfl ?_;refine aS ?_;iterate 2 refine aA rfl rfl ?_
 obtain⟨x1,hx1,h0⟩:=bS h0;refine TL.op1 (OpR.call0 fn164 (internal_stringslite_CutPrefix_c hx1) rfl) rfl ?_;iterate 4 refine aA rfl rfl ?_
 refine aN rfl ?_;refine T.ret ?_;obtain rfl:=osi h0;exact rO [] [4,5] rfl undef (cT rfl (cT rfl ResL.nil)) rfl rfl rfl rfl
noncomputable def num_Digits.l1 (a0:List UInt8) (x1:Int) (s4:Int × Int):Option (Lp (Int × Int) (Ex Int (Int × Int))):=
 if s4.2<(a0.length:Int) then
 bnd (idx a0 s4.2) fun x13=>
 bnd (num_digit x13) fun x14=>
 if x14.2=true then
 bnd (some (if x1<(w64 ((w64 (s4.1*10))+(w64 x14.1))) then x1 else (w64 ((w64 (s4.1*10))+(w64 x14.1))))) fun x16=>
 some (Lp.next (x16,w64 (s4.2+1)))
else
 some (Lp.done (Ex.ret (s4.1,s4.2)))
else
 some (Lp.done (Ex.brk s4.1))
noncomputable def num_Digits (a0:List UInt8) (a1:Int):Option (Int × Int):=
 bnd (some (if 2147483647<(if 0>a1 then 0 else a1) then 2147483647 else (if 0>a1 then 0 else a1))) fun x1=>
 bnd (loop (num_Digits.l1 a0 x1) (0,0):Option (Ex Int (Int × Int))) fun t2=>match t2 with
| .brk u3=>
 some (u3,(a0.length:Int))
| .ret u3=>some u3
theorem num_Digits_c {a0:List UInt8} {a1:Int} {res:Int × Int} (h0:num_Digits a0 a1=some res):CallF X 93 [.val (.string (bs a0)),dN a1] [] (fun x=>.tup [dN res.1,dN res.2]) (fun x=>[]):=by
 unfold num_Digits at h0;refine CallF.mkG (X:=X) rfl Tryz.func93 rfl rfl Tryz.ntmps93 rfl rfl ?_;refine aS ?_;iterate 2 refine aA rfl rfl ?_
 refine aN rfl ?_;refine aS ?_;iterate 2 refine aA rfl rfl ?_
 obtain⟨x1,hx1,h0⟩:=bS h0;refine TL.op1 (OpR.cast (OpR.pure rfl) (intE (osi hx1))) rfl ?_;refine aA rfl rfl ?_;refine aN rfl ?_;refine aS ?_;refine aA rfl rfl ?_;refine aN rfl ?_;refine T.seq ?_;refine aS ?_;refine aA rfl rfl ?_;refine TL.op1 (OpR.cast (OpR.pure rfl) (intE (lenS _))) rfl ?_;refine aA rfl rfl ?_;refine aN rfl ?_;obtain⟨t2,ht2,h0⟩:=bS h0;refine T.cutC (fun S'=>∃ u3,t2=Ex.brk u3∧S'=⟨[(6,(dN u3)),(5,(dN 0)),(4,(dN 0)),(0,.val (.string (bs a0)))],[],40⟩) (fun _ h=>h) ?_ ?_;rotate_left
 ·rintro _ ⟨u3,rfl,rfl⟩;show T X _ _ _;refine aS ?_;iterate 2 refine aA rfl rfl ?_
  refine TL.op1 (OpR.cast (OpR.pure rfl) (intE (lenS _))) rfl ?_;iterate 2 refine aA rfl rfl ?_
  refine aN rfl ?_;refine T.ret ?_;obtain rfl:=osi h0;exact rO [] [4,5] rfl undef (cT rfl (cT rfl ResL.nil)) rfl rfl rfl rfl
 refine T.block ?_;obtain⟨n5,n10⟩:=loop_some ht2;refine T.loop (fun n S'=>∃ S'',Gst S' S''∧∃ s4:Int × Int,S''=⟨[(15,(dN s4.2)),(14,(dN (a0.length:Int))),(6,(dN s4.1)),(5,(dN 0)),(4,(dN 0)),(1,(dN x1)),(0,.val (.string (bs a0)))],[],40⟩∧iter (num_Digits.l1 a0 x1) n s4=some t2) n5 ?_ ?_
 ·exact⟨_,Gst.only [0,1,4,5,6,14,15] rfl,(0,0),rfl,n10⟩
 rintro n5 _ ⟨_,g,s4,rfl,i9⟩;refine T.ghost g ?_;obtain⟨m6,q7,rfl,q8,i9⟩:=iter_succ i9;unfold num_Digits.l1 at q8;refine aS ?_;refine aA rfl rfl ?_;refine aN rfl ?_;refine T.seq ?_;rcases ite_some q8 with ⟨c12,q8⟩|⟨c12,q8⟩;rotate_left
 ·refine T.condF rfl (eF c12) ?_;refine T.exit ?_;obtain rfl:=osi q8;obtain rfl:_=_:=i9;exact⟨_,Gst.only [0,4,5,6] rfl,_,rfl,rfl⟩
 refine T.condT rfl (eT c12) ?_;refine aK rfl ?_;refine T.seq ?_;refine T.block ?_;refine aS ?_;iterate 2 refine aA rfl rfl ?_
 refine aN rfl ?_;refine aS ?_;iterate 2 refine aA rfl rfl ?_
 obtain⟨x13,hx13,q8⟩:=bS q8;refine TL.op1 (OpR.indexS hx13 rfl rfl rfl rfl) rfl ?_;obtain⟨x14,hx14,q8⟩:=bS q8;refine TL.op1 (OpR.call0 fn165 (num_digit_c hx14) rfl) rfl ?_;iterate 5 refine aA rfl rfl ?_
 refine aN rfl ?_;refine T.seq ?_;refine aS ?_;iterate 2 refine aA rfl rfl ?_
 refine aN rfl ?_;rcases ite_some q8 with ⟨c15,q8⟩|⟨c15,q8⟩;rotate_left
 ·refine T.condT rfl (not_f (eq_false_of_ne_true c15)) ?_;refine aS ?_;iterate 4 refine aA rfl rfl ?_
  refine aN rfl ?_;refine T.ret ?_;obtain rfl:=osi q8;obtain rfl:_=_:=i9;obtain rfl:=osi h0;exact rO [] [4,5] rfl undef (cT rfl (cT rfl ResL.nil)) rfl rfl rfl rfl
 refine T.condF rfl (not_t (c15)) ?_;refine aK rfl ?_;refine T.region ?_;iterate 6 refine aA rfl rfl ?_
 obtain⟨x16,hx16,q8⟩:=bS q8;refine TL.op1 (OpR.cast (OpR.pure rfl) (intE (osi hx16))) rfl ?_;refine aA rfl rfl ?_;refine aN rfl ?_;refine T.region ?_;iterate 2 refine aA rfl rfl ?_
 refine TL.nil ?_;obtain rfl:=osi q8;exact⟨m6,Nat.lt_succ_self _,_,Gst.only [0,1,4,5,6,14,15] rfl,(x16,w64 (s4.2+1)),rfl,i9⟩
end Go.Proofs.YtpmhiiemklhbhaaGreat.S
