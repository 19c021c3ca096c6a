import Derived.Test.YtpmhiiemklhbhaaGreatG1xd
import Derived.Test.YtpmhiiemklhbhaaGreatG1xc
import Derived.Test.YtpmhiiemklhbhaaGreatG1xb
import Derived.Test.YtpmhiiemklhbhaaGreatG1xa
set_option maxHeartbeats 4000000
set_option linter.unusedVariables false
set_option linter.unusedSimpArgs false
set_option maxRecDepth 20000
namespace Go.Proofs.YtpmhiiemklhbhaaGreat.S
open Go Go.Sm
attribute [local irreducible] T TL OpR CallT iter loop
noncomputable def ref02_Compare (a0:List UInt8) (a1:List UInt8):Option Int:=
 bnd (ref02_Parse a0) fun x1=>
 bnd (ref02_Parse a1) fun x2=>
 bnd (if x1.2=true then
 some x2.2
else
 some false:Option Bool) fun t3=>
 bnd (if t3=true then
 some (decide (x1.1<x2.1),decide (x2.1<x1.1))
else
 some ((Op.bytesLess a0 a1),(Op.bytesLess a1 a0)):Option (Bool × Bool)) fun t5=>
 bnd (if (x1.2==x2.2)=true then
 some (t5.1,t5.2)
else
 some (x1.2,x2.2):Option (Bool × Bool)) fun t7=>
 if t7.1=true then
 some (-1)
else
 if t7.2=true then
 some 1
else
 some 0
theorem ref02_Compare_c {a0:List UInt8} {a1:List UInt8} {res:Int} (h0:ref02_Compare a0 a1=some res):CallF X 109 [.val (.string (bs a0)),.val (.string (bs a1))] [] (fun x=>(dN res)) (fun x=>[]):=by
 unfold ref02_Compare at h0;refine CallF.mkG (X:=X) rfl Tryz.func109 rfl rfl Tryz.ntmps109 rfl rfl ?_;refine aS ?_;refine aA rfl rfl ?_;refine aN rfl ?_;refine aS ?_;refine aA rfl rfl ?_;obtain⟨x1,hx1,h0⟩:=bS h0;refine TL.op1 (OpR.call0 fn174 (ref02_Parse_c hx1) rfl) rfl ?_;iterate 5 refine aA rfl rfl ?_
 refine aN rfl ?_;refine aS ?_;refine aA rfl rfl ?_;obtain⟨x2,hx2,h0⟩:=bS h0;refine TL.op1 (OpR.call0 fn174 (ref02_Parse_c hx2) rfl) rfl ?_;iterate 5 refine aA rfl rfl ?_
 refine aN rfl ?_;refine aS ?_;iterate 2 refine aA rfl rfl ?_
 refine TL.op1 (OpR.cast (OpR.pure rfl) (boolE (strLt _ _))) rfl ?_;iterate 2 refine aA rfl rfl ?_
 refine TL.op1 (OpR.cast (OpR.pure rfl) (boolE (strLt _ _))) rfl ?_;iterate 2 refine aA rfl rfl ?_
 refine aN rfl ?_;refine T.seq ?_;refine T.seq ?_;obtain⟨t3,ht3,h0⟩:=bS h0;refine T.cutC (fun S'=>S'=⟨[(30,(dT t3)),(10,(dT (Op.bytesLess a1 a0))),(9,(dT (Op.bytesLess a0 a1))),(8,(dT x2.2)),(7,(dN x2.1)),(6,(dT x1.2)),(5,(dN x1.1)),(4,(dN 0))],[],44⟩) (fun _ h=>h) ?_ ?_
 ·refine T.region ?_;iterate 2 refine aA rfl rfl ?_
  rcases ite_some ht3 with ⟨c4,ht3⟩|⟨c4,ht3⟩
  ·refine TL.on rfl rfl rfl rfl (c4) ?_;refine aA rfl rfl ?_;refine TL.op1 (OpR.pickT rfl (c4) rfl) rfl ?_;refine TL.nil ?_;obtain rfl:=osi ht3;exact⟨_,Gst.only [4,5,6,7,8,9,10,30] rfl,rfl⟩
  refine TL.off rfl rfl rfl rfl (eq_false_of_ne_true c4) rfl rfl ?_;refine TL.op1 (OpR.pickF rfl (eq_false_of_ne_true c4) rfl) rfl ?_;refine TL.nil ?_;obtain rfl:=osi ht3;exact⟨_,Gst.only [4,5,6,7,8,9,10,30] rfl,rfl⟩
 rintro _ rfl;show T X _ _ _;obtain⟨t5,ht5,h0⟩:=bS h0;refine T.cutC (fun S'=>S'=⟨[(10,(dT t5.2)),(9,(dT t5.1)),(8,(dT x2.2)),(6,(dT x1.2)),(4,(dN 0))],[],44⟩) (fun _ h=>h) ?_ ?_
 ·rcases ite_some ht5 with ⟨c6,ht5⟩|⟨c6,ht5⟩;rotate_left
  ·refine T.condF rfl (eq_false_of_ne_true c6) ?_;refine T.skip ?_;obtain rfl:=osi ht5;exact⟨_,Gst.only [4,6,8,9,10] rfl,rfl⟩
  refine T.condT rfl (c6) ?_;refine T.region ?_;iterate 8 refine aA rfl rfl ?_
  refine TL.nil ?_;obtain rfl:=osi ht5;exact⟨_,Gst.only [4,6,8,9,10] rfl,rfl⟩
 rintro _ rfl;show T X _ _ _;refine T.seq ?_;refine aS ?_;iterate 2 refine aA rfl rfl ?_
 refine TL.op1 (OpR.neBool rfl rfl rfl rfl) rfl ?_;refine aN rfl ?_;obtain⟨t7,ht7,h0⟩:=bS h0;refine T.cutC (fun S'=>S'=⟨[(10,(dT t7.2)),(9,(dT t7.1)),(4,(dN 0))],[],44⟩) (fun _ h=>h) ?_ ?_
 ·rcases ite_some ht7 with ⟨c8,ht7⟩|⟨c8,ht7⟩
  ·refine T.condF rfl (not_t (c8)) ?_;refine T.skip ?_;obtain rfl:=osi ht7;exact⟨_,Gst.only [4,9,10] rfl,rfl⟩
  refine T.condT rfl (not_f (eq_false_of_ne_true c8)) ?_;refine T.region ?_;iterate 4 refine aA rfl rfl ?_
  refine TL.nil ?_;obtain rfl:=osi ht7;exact⟨_,Gst.only [4,9,10] rfl,rfl⟩
 rintro _ rfl;show T X _ _ _;refine T.seq ?_;refine aS ?_;refine aA rfl rfl ?_;refine aN rfl ?_;rcases ite_some h0 with ⟨c9,h0⟩|⟨c9,h0⟩
 ·refine T.condT rfl (c9) ?_;refine aS ?_;refine aA rfl rfl ?_;refine aN rfl ?_;refine T.ret ?_;obtain rfl:=osi h0;exact rO [] [4] rfl undef (cT rfl ResL.nil) rfl rfl rfl rfl
 refine T.condF rfl (eq_false_of_ne_true c9) ?_;refine aK rfl ?_;refine T.seq ?_;refine aS ?_;refine aA rfl rfl ?_;refine aN rfl ?_;rcases ite_some h0 with ⟨c10,h0⟩|⟨c10,h0⟩
 ·refine T.condT rfl (c10) ?_;refine aS ?_;refine aA rfl rfl ?_;refine aN rfl ?_;refine T.ret ?_;obtain rfl:=osi h0;exact rO [] [4] rfl undef (cT rfl ResL.nil) rfl rfl rfl rfl
 refine T.condF rfl (eq_false_of_ne_true c10) ?_;refine aK rfl ?_;refine aS ?_;refine aA rfl rfl ?_;refine aN rfl ?_;refine T.ret ?_;obtain rfl:=osi h0;exact rO [] [4] rfl undef (cT rfl ResL.nil) rfl rfl rfl rfl
noncomputable def ref16_Kinds.l1 (a0:ref11_Grid) (a1:Int) (x12:Int) (x13:List Int) (s15:Bool × Int):Option (Lp (Bool × Int) Bool):=
 if s15.2<(x13.length:Int) then
 bnd (idx x13 s15.2) fun x24=>
 bnd (if s15.1=true then
 bnd (idx a0.fRows x12) fun x28=>
 bnd (ref16_text x28 a1) fun x29=>
 bnd (idx a0.fRows x24) fun x30=>
 bnd (ref16_text x30 a1) fun x31=>
 bnd (ref02_Compare x29 x31) fun x32=>
 some (!(x32==0))
else
 some false:Option Bool) fun t25=>
 some (Lp.next (t25,w64 (s15.2+1)))
else
 some (Lp.done s15.1)
noncomputable def ref16_Kinds.l2 (a0:ref11_Grid) (a1:Int) (x1:(List Int)) (s3:Int × Int):Option (Lp (Int × Int) Int):=
 if s3.2<(x1.length:Int) then
 bnd (idx x1 s3.2) fun x12=>
 bnd (cut x1 0 s3.2) fun x13=>
 bnd (loop (ref16_Kinds.l1 a0 a1 x12 x13) (true,0):Option Bool) fun t14=>
 bnd (if t14=true then
 some (w64 (s3.1+1))
else
 some s3.1:Option Int) fun t33=>
 some (Lp.next (t33,w64 (s3.2+1)))
else
 some (Lp.done s3.1)
noncomputable def ref16_Kinds (a0:ref11_Grid) (a1:Int):Option Int:=
 bnd (ref11_Visible a0) fun x1=>
 bnd (loop (ref16_Kinds.l2 a0 a1 x1) (0,0):Option Int) fun t2=>
 some t2
theorem ref16_Kinds_c {a0:ref11_Grid} {a1:Int} {res:Int} (h0:ref16_Kinds a0 a1=some res):CallF X 43 [.agg [.sl 3 (List.map e_ref08_Row a0.fRows),dT a0.fTail,dN a0.fEnd],dN a1] [] (fun x=>(dN res)) (fun x=>[]):=by
 unfold ref16_Kinds at h0;refine CallF.mkG (X:=X) rfl Tryz.func43 rfl rfl Tryz.ntmps43 rfl rfl ?_;refine aS ?_;refine TL.op1 (OpR.boxImm rfl rfl) rfl ?_;refine aA rfl rfl ?_;refine aN rfl ?_;refine aS ?_;refine aA rfl rfl ?_;refine aN rfl ?_;refine aS ?_;refine aA rfl rfl ?_;obtain⟨x1,hx1,h0⟩:=bS h0;refine TL.op1 (OpR.call0 fn63 (ref11_Visible_c hx1) rfl) rfl ?_;refine aA rfl rfl ?_;refine aN rfl ?_;refine T.seq ?_;refine aS ?_;refine aA rfl rfl ?_;refine TL.op1 (OpR.cast (OpR.pure rfl) (intE (lenM _ _))) rfl ?_;refine aA rfl rfl ?_;refine aN rfl ?_;obtain⟨t2,ht2,h0⟩:=bS h0;refine T.cutC (fun S'=>S'=⟨[(5,(dN t2)),(4,(dN 0))],[],54⟩) (fun _ h=>h) ?_ ?_;rotate_left
 ·rintro _ rfl;show T X _ _ _;refine aS ?_;iterate 2 refine aA rfl rfl ?_
  refine aN rfl ?_;refine T.ret ?_;obtain rfl:=osi h0;exact rO [] [4] rfl undef (cT rfl ResL.nil) rfl rfl rfl rfl
 refine T.block ?_;obtain⟨n4,n9⟩:=loop_some ht2;refine T.loop (fun n S'=>∃ S'',Gst S' S''∧∃ s3:Int × Int,S''=⟨[(16,(dN s3.2)),(15,(dN (x1.length:Int))),(14,.sl 1 (List.map (eI .i64) x1)),(6,.sl 1 (List.map (eI .i64) x1)),(5,(dN s3.1)),(4,(dN 0)),(2,.nod [.sl 3 (List.map e_ref08_Row a0.fRows),dT a0.fTail,dN a0.fEnd]),(1,(dN a1))],[],54⟩∧iter (ref16_Kinds.l2 a0 a1 x1) n s3=some t2) n4 ?_ ?_
 ·exact⟨_,Gst.only [1,2,4,5,6,14,15,16] rfl,(0,0),rfl,n9⟩
 rintro n4 _ ⟨_,g,s3,rfl,i8⟩;refine T.ghost g ?_;obtain⟨m5,q6,rfl,q7,i8⟩:=iter_succ i8;unfold ref16_Kinds.l2 at q7;refine aS ?_;refine aA rfl rfl ?_;refine aN rfl ?_;refine T.seq ?_;rcases ite_some q7 with ⟨c11,q7⟩|⟨c11,q7⟩;rotate_left
 ·refine T.condF rfl (eF c11) ?_;refine T.exit ?_;obtain rfl:=osi q7;obtain rfl:_=_:=i8;exact⟨_,Gst.only [4,5] rfl,rfl⟩
 refine T.condT rfl (eT c11) ?_;refine aK rfl ?_;refine T.seq ?_;refine T.block ?_;refine aS ?_;refine aA rfl rfl ?_;obtain⟨x12,hx12,q7⟩:=bS q7;refine TL.op1 (OpR.indexM (eI .i64) hx12 rfl rfl rfl rfl rfl) rfl ?_;iterate 3 refine aA rfl rfl ?_
 refine aN rfl ?_;refine aS ?_;refine aA rfl rfl ?_;refine aN rfl ?_;refine T.seq ?_;refine aS ?_;iterate 2 refine aA rfl rfl ?_
 obtain⟨x13,hx13,q7⟩:=bS q7;refine TL.op1 (OpR.sliceM (sz:=1) (eI .i64) hx13 rfl rfl rfl rfl BdM.none (BdM.some rfl) rfl) rfl ?_;refine TL.op1 (OpR.cast (OpR.pure rfl) (intE (lenM _ _))) rfl ?_;refine aA rfl rfl ?_;refine aN rfl ?_;obtain⟨t14,ht14,q7⟩:=bS q7;refine T.cutC (fun S'=>S'=⟨[(16,(dN s3.2)),(15,(dN (x1.length:Int))),(14,.sl 1 (List.map (eI .i64) x1)),(9,(dT t14)),(6,.sl 1 (List.map (eI .i64) x1)),(5,(dN s3.1)),(4,(dN 0)),(2,.nod [.sl 3 (List.map e_ref08_Row a0.fRows),dT a0.fTail,dN a0.fEnd]),(1,(dN a1))],[],54⟩) (fun _ h=>h) ?_ ?_;rotate_left
 ·rintro _ rfl;show T X _ _ _;refine aS ?_;refine aA rfl rfl ?_;refine aN rfl ?_;obtain⟨t33,ht33,q7⟩:=bS q7;refine T.cutC (fun S'=>S'=⟨[(16,(dN s3.2)),(15,(dN (x1.length:Int))),(14,.sl 1 (List.map (eI .i64) x1)),(6,.sl 1 (List.map (eI .i64) x1)),(5,(dN t33)),(4,(dN 0)),(2,.nod [.sl 3 (List.map e_ref08_Row a0.fRows),dT a0.fTail,dN a0.fEnd]),(1,(dN a1))],[],54⟩) (fun _ h=>h) ?_ ?_;rotate_left
  ·rintro _ rfl;show T X _ _ _;refine T.region ?_;iterate 2 refine aA rfl rfl ?_
   refine TL.nil ?_;obtain rfl:=osi q7;exact⟨m5,Nat.lt_succ_self _,_,Gst.only [1,2,4,5,6,14,15,16] rfl,(t33,w64 (s3.2+1)),rfl,i8⟩
  rcases ite_some ht33 with ⟨c34,ht33⟩|⟨c34,ht33⟩;rotate_left
  ·refine T.condF rfl (eq_false_of_ne_true c34) ?_;refine T.skip ?_;obtain rfl:=osi ht33;exact⟨_,Gst.only [1,2,4,5,6,14,15,16] rfl,rfl⟩
  refine T.condT rfl (c34) ?_;refine T.region ?_;iterate 3 refine aA rfl rfl ?_
  refine TL.nil ?_;obtain rfl:=osi ht33;exact⟨_,Gst.only [1,2,4,5,6,14,15,16] rfl,rfl⟩
 refine T.block ?_;obtain⟨n16,n21⟩:=loop_some ht14;refine T.loop (fun n S'=>∃ S'',Gst S' S''∧∃ s15:Bool × Int,S''=⟨[(25,(dN s15.2)),(24,(dN (x13.length:Int))),(23,.sl 1 (List.map (eI .i64) x13)),(16,(dN s3.2)),(15,(dN (x1.length:Int))),(14,.sl 1 (List.map (eI .i64) x1)),(9,(dT s15.1)),(8,(dN x12)),(6,.sl 1 (List.map (eI .i64) x1)),(5,(dN s3.1)),(4,(dN 0)),(2,.nod [.sl 3 (List.map e_ref08_Row a0.fRows),dT a0.fTail,dN a0.fEnd]),(1,(dN a1))],[],54⟩∧iter (ref16_Kinds.l1 a0 a1 x12 x13) n s15=some t14) n16 ?_ ?_
 ·exact⟨_,Gst.only [1,2,4,5,6,8,9,14,15,16,23,24,25] rfl,(true,0),rfl,n21⟩
 rintro n16 _ ⟨_,g,s15,rfl,i20⟩;refine T.ghost g ?_;obtain⟨m17,q18,rfl,q19,i20⟩:=iter_succ i20;unfold ref16_Kinds.l1 at q19;refine aS ?_;refine aA rfl rfl ?_;refine aN rfl ?_;refine T.seq ?_;rcases ite_some q19 with ⟨c23,q19⟩|⟨c23,q19⟩;rotate_left
 ·refine T.condF rfl (eF c23) ?_;refine T.exit ?_;obtain rfl:=osi q19;obtain rfl:_=_:=i20;exact⟨_,Gst.only [1,2,4,5,6,9,14,15,16] rfl,rfl⟩
 refine T.condT rfl (eT c23) ?_;refine aK rfl ?_;refine T.seq ?_;refine T.block ?_;refine aS ?_;obtain⟨x24,hx24,q19⟩:=bS q19;refine TL.op1 (OpR.indexM (eI .i64) hx24 rfl rfl rfl rfl rfl) rfl ?_;iterate 2 refine aA rfl rfl ?_
 refine aN rfl ?_;obtain⟨t25,ht25,q19⟩:=bS q19;refine T.cutC (fun S'=>S'=⟨[(25,(dN s15.2)),(24,(dN (x13.length:Int))),(23,.sl 1 (List.map (eI .i64) x13)),(16,(dN s3.2)),(15,(dN (x1.length:Int))),(14,.sl 1 (List.map (eI .i64) x1)),(9,(dT t25)),(8,(dN x12)),(6,.sl 1 (List.map (eI .i64) x1)),(5,(dN s3.1)),(4,(dN 0)),(2,.nod [.sl 3 (List.map e_ref08_Row a0.fRows),dT a0.fTail,dN a0.fEnd]),(1,(dN a1))],[],54⟩) (fun _ h=>h) ?_ ?_;rotate_left
 ·rintro _ rfl;show T X _ _ _;refine T.region ?_;iterate 2 refine aA rfl rfl ?_
  refine TL.nil ?_;obtain rfl:=osi q19;exact⟨m17,Nat.lt_succ_self _,_,Gst.only [1,2,4,5,6,8,9,14,15,16,23,24,25] rfl,(t25,w64 (s15.2+1)),rfl,i20⟩
 rcases ite_some ht25 with ⟨c27,ht25⟩|⟨c27,ht25⟩;rotate_left
 ·refine T.drawQ drawsX [dT s15.1,dT s15.1,.tup [],.tup [],.tup [],.tup [],.tup [],.tup [],.tup [],.tup [],.tup [],.tup [],.tup [],.tup [],.tup [],.tup [],.tup [],.tup [],dT false,dT false] [1,2,4,5,6,8,9,14,15,16,23,24,25] (by decide +kernel) rfl ?_ rfl ?_;rotate_left
  ·obtain rfl:=osi ht25;exact⟨_,Gst.only [1,2,4,5,6,8,9,14,15,16,23,24,25] rfl,rfl⟩
  iterate 2 refine aB rfl rfl rfl ?_
  refine OpsQ.no (Want.bool rfl rfl rfl rfl (by rw[(eq_false_of_ne_true c27)]; rfl)) rfl ?_;refine OpsQ.no (Want.bool rfl rfl rfl rfl (by rw[(eq_false_of_ne_true c27)]; rfl)) rfl ?_;refine OpsQ.no (Want.bool rfl rfl rfl rfl (by rw[(eq_false_of_ne_true c27)]; rfl)) rfl ?_;refine OpsQ.no (Want.bool rfl rfl rfl rfl (by rw[(eq_false_of_ne_true c27)]; rfl)) rfl ?_;refine OpsQ.no (Want.bool rfl rfl rfl rfl (by rw[(eq_false_of_ne_true c27)]; rfl)) rfl ?_;refine OpsQ.no (Want.bool rfl rfl rfl rfl (by rw[(eq_false_of_ne_true c27)]; rfl)) rfl ?_;refine OpsQ.no (Want.bool rfl rfl rfl rfl (by rw[(eq_false_of_ne_true c27)]; rfl)) rfl ?_;refine OpsQ.no (Want.bool rfl rfl rfl rfl (by rw[(eq_false_of_ne_true c27)]; rfl)) rfl ?_;refine OpsQ.no (Want.bool rfl rfl rfl rfl (by rw[(eq_false_of_ne_true c27)]; rfl)) rfl ?_;refine OpsQ.no (Want.bool rfl rfl rfl rfl (by rw[(eq_false_of_ne_true c27)]; rfl)) rfl ?_;refine OpsQ.no (Want.bool rfl rfl rfl rfl (by rw[(eq_false_of_ne_true c27)]; rfl)) rfl ?_;refine OpsQ.no (Want.bool rfl rfl rfl rfl (by rw[(eq_false_of_ne_true c27)]; rfl)) rfl ?_;refine OpsQ.no (Want.bool rfl rfl rfl rfl (by rw[(eq_false_of_ne_true c27)]; rfl)) rfl ?_;refine OpsQ.no (Want.bool rfl rfl rfl rfl (by rw[(eq_false_of_ne_true c27)]; rfl)) rfl ?_;refine OpsQ.no (Want.bool rfl rfl rfl rfl (by rw[(eq_false_of_ne_true c27)]; rfl)) rfl ?_;refine OpsQ.no (Want.bool rfl rfl rfl rfl (by rw[(eq_false_of_ne_true c27)]; rfl)) rfl ?_;refine OpsQ.yes (Want.plain rfl) rfl (OpR.pickF rfl (eq_false_of_ne_true c27) rfl) ?_;refine aB rfl rfl rfl ?_;exact OpsQ.nil
 obtain⟨x28,hx28,ht25⟩:=bS ht25;obtain⟨x29,hx29,ht25⟩:=bS ht25;obtain⟨x30,hx30,ht25⟩:=bS ht25;obtain⟨x31,hx31,ht25⟩:=bS ht25;obtain⟨x32,hx32,ht25⟩:=bS ht25;refine T.drawQ drawsX [dT s15.1,dT s15.1,.nod [.sl 3 (List.map e_ref08_Row a0.fRows),dT a0.fTail,dN a0.fEnd],.sl 3 (List.map e_ref08_Row a0.fRows),dN x12,.nod [.sl 3 (List.map e_ref07_Cell x28.fCells),dN x28.fEnd,dT x28.fHidden],.agg [.sl 3 (List.map e_ref07_Cell x28.fCells),dN x28.fEnd,dT x28.fHidden],dN a1,.val (.string (bs x29)),.nod [.sl 3 (List.map e_ref08_Row a0.fRows),dT a0.fTail,dN a0.fEnd],.sl 3 (List.map e_ref08_Row a0.fRows),dN x24,.nod [.sl 3 (List.map e_ref07_Cell x30.fCells),dN x30.fEnd,dT x30.fHidden],.agg [.sl 3 (List.map e_ref07_Cell x30.fCells),dN x30.fEnd,dT x30.fHidden],dN a1,.val (.string (bs x31)),dN x32,dT (!(x32==0)),dT (!(x32==0)),dT (!(x32==0))] [1,2,4,5,6,8,9,14,15,16,23,24,25] (by decide +kernel) rfl ?_ rfl ?_;rotate_left
 ·obtain rfl:=osi ht25;exact⟨_,Gst.only [1,2,4,5,6,8,9,14,15,16,23,24,25] rfl,rfl⟩
 iterate 2 refine aB rfl rfl rfl ?_
 refine OpsQ.yes (Want.bool rfl rfl rfl rfl (by rw[(c27)]; rfl)) rfl (OpR.pure rfl) ?_;refine OpsQ.yes (Want.bool rfl rfl rfl rfl (by rw[(c27)]; rfl)) rfl (OpR.pure rfl) ?_;refine OpsQ.yes (Want.bool rfl rfl rfl rfl (by rw[(c27)]; rfl)) rfl (OpR.pure rfl) ?_;refine OpsQ.yes (Want.bool rfl rfl rfl rfl (by rw[(c27)]; rfl)) rfl (OpR.indexM e_ref08_Row hx28 rfl rfl rfl rfl rfl) ?_;refine OpsQ.yes (Want.bool rfl rfl rfl rfl (by rw[(c27)]; rfl)) rfl (OpR.pure rfl) ?_;refine OpsQ.yes (Want.bool rfl rfl rfl rfl (by rw[(c27)]; rfl)) rfl (OpR.pure rfl) ?_;refine OpsQ.yes (Want.bool rfl rfl rfl rfl (by rw[(c27)]; rfl)) rfl (OpR.call0 fn110 (ref16_text_c hx29) rfl) ?_;refine OpsQ.yes (Want.bool rfl rfl rfl rfl (by rw[(c27)]; rfl)) rfl (OpR.pure rfl) ?_;refine OpsQ.yes (Want.bool rfl rfl rfl rfl (by rw[(c27)]; rfl)) rfl (OpR.pure rfl) ?_;refine OpsQ.yes (Want.bool rfl rfl rfl rfl (by rw[(c27)]; rfl)) rfl (OpR.pure rfl) ?_;refine OpsQ.yes (Want.bool rfl rfl rfl rfl (by rw[(c27)]; rfl)) rfl (OpR.indexM e_ref08_Row hx30 rfl rfl rfl rfl rfl) ?_;refine OpsQ.yes (Want.bool rfl rfl rfl rfl (by rw[(c27)]; rfl)) rfl (OpR.pure rfl) ?_;refine OpsQ.yes (Want.bool rfl rfl rfl rfl (by rw[(c27)]; rfl)) rfl (OpR.pure rfl) ?_;refine OpsQ.yes (Want.bool rfl rfl rfl rfl (by rw[(c27)]; rfl)) rfl (OpR.call0 fn110 (ref16_text_c hx31) rfl) ?_;refine OpsQ.yes (Want.bool rfl rfl rfl rfl (by rw[(c27)]; rfl)) rfl (OpR.call0 fn109 (ref02_Compare_c hx32) rfl) ?_;refine OpsQ.yes (Want.bool rfl rfl rfl rfl (by rw[(c27)]; rfl)) rfl (OpR.pure rfl) ?_;refine OpsQ.yes (Want.plain rfl) rfl (OpR.pickT rfl (c27) rfl) ?_;refine aB rfl rfl rfl ?_;exact OpsQ.nil
noncomputable def quote_class (a0:UInt8):Option Int:=
 if (a0.toNat:Int)=44 then
 some 1
else
 if (a0.toNat:Int)=34 then
 some 2
else
 if (a0.toNat:Int)=13 then
 some 3
else
 if (a0.toNat:Int)=10 then
 some 4
else
 some 0
theorem quote_class_c {a0:UInt8} {res:Int} (h0:quote_class a0=some res):CallF X 260 [.val (.int .u8 (a0.toNat:Int))] [] (fun x=>(dN res)) (fun x=>[]):=by
 unfold quote_class at h0;refine CallF.mkG (X:=X) rfl Tryz.func260 rfl rfl Tryz.ntmps260 rfl rfl ?_;refine aS ?_;refine aA rfl rfl ?_;refine aN rfl ?_;refine T.seq ?_;refine aS ?_;refine aA rfl rfl ?_;refine aN rfl ?_;refine T.block ?_;refine aS ?_;iterate 2 refine aA rfl rfl ?_
 refine aN rfl ?_;rcases ite_some h0 with ⟨c1,h0⟩|⟨c1,h0⟩
 ·refine T.condT rfl (beq_iff_eq.2 c1) ?_;refine aS ?_;refine aA rfl rfl ?_;refine aN rfl ?_;refine T.ret ?_;obtain rfl:=osi h0;exact rO [] [2] rfl undef (cT rfl ResL.nil) rfl rfl rfl rfl
 refine T.condF rfl (beq_eq_false_iff_ne.2 c1) ?_;refine aS ?_;iterate 2 refine aA rfl rfl ?_
 refine aN rfl ?_;rcases ite_some h0 with ⟨c2,h0⟩|⟨c2,h0⟩
 ·refine T.condT rfl (beq_iff_eq.2 c2) ?_;refine aS ?_;refine aA rfl rfl ?_;refine aN rfl ?_;refine T.ret ?_;obtain rfl:=osi h0;exact rO [] [2] rfl undef (cT rfl ResL.nil) rfl rfl rfl rfl
 refine T.condF rfl (beq_eq_false_iff_ne.2 c2) ?_;refine aS ?_;iterate 2 refine aA rfl rfl ?_
 refine aN rfl ?_;rcases ite_some h0 with ⟨c3,h0⟩|⟨c3,h0⟩
 ·refine T.condT rfl (beq_iff_eq.2 c3) ?_;refine aS ?_;refine aA rfl rfl ?_;refine aN rfl ?_;refine T.ret ?_;obtain rfl:=osi h0;exact rO [] [2] rfl undef (cT rfl ResL.nil) rfl rfl rfl rfl
 refine T.condF rfl (beq_eq_false_iff_ne.2 c3) ?_;refine aS ?_;iterate 2 refine aA rfl rfl ?_
 refine aN rfl ?_;rcases ite_some h0 with ⟨c4,h0⟩|⟨c4,h0⟩
 ·refine T.condT rfl (beq_iff_eq.2 c4) ?_;refine aS ?_;refine aA rfl rfl ?_;refine aN rfl ?_;refine T.ret ?_;obtain rfl:=osi h0;exact rO [] [2] rfl undef (cT rfl ResL.nil) rfl rfl rfl rfl
 refine T.condF rfl (beq_eq_false_iff_ne.2 c4) ?_;refine aK rfl ?_;refine aS ?_;refine aA rfl rfl ?_;refine aN rfl ?_;refine T.ret ?_;obtain rfl:=osi h0;exact rO [] [2] rfl undef (cT rfl ResL.nil) rfl rfl rfl rfl
noncomputable def quote_Needs.l1 (a0:List UInt8) (s3:Int):Option (Lp Int (Ex Unit Bool)):=
 if s3<(a0.length:Int) then
 bnd (idx a0 s3) fun x12=>
 bnd (quote_class x12) fun x13=>
 if x13=0 then
 some (Lp.next (w64 (s3+1)))
else
 some (Lp.done (Ex.ret true))
else
 some (Lp.done (Ex.brk ()))
noncomputable def quote_Needs (a0:List UInt8):Option Bool:=
 bnd (loop (quote_Needs.l1 a0) 0:Option (Ex Unit Bool)) fun t1=>match t1 with
| .brk u2=>
 some false
| .ret u2=>some u2
theorem quote_Needs_c {a0:List UInt8} {res:Bool} (h0:quote_Needs a0=some res):CallF X 259 [.sl 1 (lB a0)] [] (fun x=>(dT res)) (fun x=>[]):=by
 unfold quote_Needs at h0;refine CallF.mkG (X:=X) rfl Tryz.func259 rfl rfl Tryz.ntmps259 rfl rfl ?_;refine aS ?_;refine aA rfl rfl ?_;refine aN rfl ?_;refine T.seq ?_;refine aS ?_;refine aA rfl rfl ?_;refine TL.op1 (OpR.cast (OpR.pure rfl) (intE (lenM _ _))) rfl ?_;refine aA rfl rfl ?_;refine aN rfl ?_;obtain⟨t1,ht1,h0⟩:=bS h0;refine T.cutC (fun S'=>∃ u2,t1=Ex.brk u2∧S'=⟨[(2,(dT false))],[],15⟩) (fun _ h=>h) ?_ ?_;rotate_left
 ·rintro _ ⟨u2,rfl,rfl⟩;show T X _ _ _;refine aS ?_;refine aA rfl rfl ?_;refine aN rfl ?_;refine T.ret ?_;obtain rfl:=osi h0;exact rO [] [2] rfl undef (cT rfl ResL.nil) rfl rfl rfl rfl
 refine T.block ?_;obtain⟨n4,n9⟩:=loop_some ht1;refine T.loop (fun n S'=>∃ S'',Gst S' S''∧∃ s3:Int,S''=⟨[(7,(dN s3)),(6,(dN (a0.length:Int))),(5,.sl 1 (lB a0)),(2,(dT false))],[],15⟩∧iter (quote_Needs.l1 a0) n s3=some t1) n4 ?_ ?_
 ·exact⟨_,Gst.only [2,5,6,7] rfl,0,rfl,n9⟩
 rintro n4 _ ⟨_,g,s3,rfl,i8⟩;refine T.ghost g ?_;obtain⟨m5,q6,rfl,q7,i8⟩:=iter_succ i8;unfold quote_Needs.l1 at q7;refine aS ?_;refine aA rfl rfl ?_;refine aN rfl ?_;refine T.seq ?_;rcases ite_some q7 with ⟨c11,q7⟩|⟨c11,q7⟩;rotate_left
 ·refine T.condF rfl (eF c11) ?_;refine T.exit ?_;obtain rfl:=osi q7;obtain rfl:_=_:=i8;exact⟨_,Gst.only [2] rfl,_,rfl,rfl⟩
 refine T.condT rfl (eT c11) ?_;refine aK rfl ?_;refine T.seq ?_;refine T.block ?_;refine aS ?_;obtain⟨x12,hx12,q7⟩:=bS q7;refine TL.op1 (OpR.indexM byteD hx12 rfl rfl rfl rfl rfl) rfl ?_;iterate 2 refine aA rfl rfl ?_
 refine aN rfl ?_;refine aS ?_;refine aA rfl rfl ?_;obtain⟨x13,hx13,q7⟩:=bS q7;refine TL.op1 (OpR.call0 fn260 (quote_class_c hx13) rfl) rfl ?_;refine aA rfl rfl ?_;refine aN rfl ?_;rcases ite_some q7 with ⟨c14,q7⟩|⟨c14,q7⟩
 ·refine T.condF rfl (not_t (beq_iff_eq.2 c14)) ?_;refine aK rfl ?_;refine T.region ?_;iterate 2 refine aA rfl rfl ?_
  refine TL.nil ?_;obtain rfl:=osi q7;exact⟨m5,Nat.lt_succ_self _,_,Gst.only [2,5,6,7] rfl,w64 (s3+1),rfl,i8⟩
 refine T.condT rfl (not_f (beq_eq_false_iff_ne.2 c14)) ?_;refine aS ?_;refine aA rfl rfl ?_;refine aN rfl ?_;refine T.ret ?_;obtain rfl:=osi q7;obtain rfl:_=_:=i8;obtain rfl:=osi h0;exact rO [] [2] rfl undef (cT rfl ResL.nil) rfl rfl rfl rfl
noncomputable def quote_quotes.l1 (a0:List UInt8) (s2:Int × Int):Option (Lp (Int × Int) Int):=
 if s2.2<(a0.length:Int) then
 bnd (idx a0 s2.2) fun x11=>
 bnd (quote_class x11) fun x12=>
 bnd (if x12=2 then
 some (w64 (s2.1+1))
else
 some s2.1:Option Int) fun t13=>
 some (Lp.next (t13,w64 (s2.2+1)))
else
 some (Lp.done s2.1)
noncomputable def quote_quotes (a0:List UInt8):Option Int:=
 bnd (loop (quote_quotes.l1 a0) (0,0):Option Int) fun t1=>
 some t1
theorem quote_quotes_c {a0:List UInt8} {res:Int} (h0:quote_quotes a0=some res):CallF X 273 [.sl 1 (lB a0)] [] (fun x=>(dN res)) (fun x=>[]):=by
 unfold quote_quotes at h0;refine CallF.mkG (X:=X) rfl Tryz.func273 rfl rfl Tryz.ntmps273 rfl rfl ?_;refine aS ?_;refine aA rfl rfl ?_;refine aN rfl ?_;refine aS ?_;refine aA rfl rfl ?_;refine aN rfl ?_;refine T.seq ?_;refine aS ?_;refine aA rfl rfl ?_;refine TL.op1 (OpR.cast (OpR.pure rfl) (intE (lenM _ _))) rfl ?_;refine aA rfl rfl ?_;refine aN rfl ?_;obtain⟨t1,ht1,h0⟩:=bS h0;refine T.cutC (fun S'=>S'=⟨[(3,(dN t1)),(2,(dN 0))],[],19⟩) (fun _ h=>h) ?_ ?_;rotate_left
 ·rintro _ rfl;show T X _ _ _;refine aS ?_;iterate 2 refine aA rfl rfl ?_
  refine aN rfl ?_;refine T.ret ?_;obtain rfl:=osi h0;exact rO [] [2] rfl undef (cT rfl ResL.nil) rfl rfl rfl rfl
 refine T.block ?_;obtain⟨n3,n8⟩:=loop_some ht1;refine T.loop (fun n S'=>∃ S'',Gst S' S''∧∃ s2:Int × Int,S''=⟨[(8,(dN s2.2)),(7,(dN (a0.length:Int))),(6,.sl 1 (lB a0)),(3,(dN s2.1)),(2,(dN 0))],[],19⟩∧iter (quote_quotes.l1 a0) n s2=some t1) n3 ?_ ?_
 ·exact⟨_,Gst.only [2,3,6,7,8] rfl,(0,0),rfl,n8⟩
 rintro n3 _ ⟨_,g,s2,rfl,i7⟩;refine T.ghost g ?_;obtain⟨m4,q5,rfl,q6,i7⟩:=iter_succ i7;unfold quote_quotes.l1 at q6;refine aS ?_;refine aA rfl rfl ?_;refine aN rfl ?_;refine T.seq ?_;rcases ite_some q6 with ⟨c10,q6⟩|⟨c10,q6⟩;rotate_left
 ·refine T.condF rfl (eF c10) ?_;refine T.exit ?_;obtain rfl:=osi q6;obtain rfl:_=_:=i7;exact⟨_,Gst.only [2,3] rfl,rfl⟩
 refine T.condT rfl (eT c10) ?_;refine aK rfl ?_;refine T.seq ?_;refine T.block ?_;refine aS ?_;obtain⟨x11,hx11,q6⟩:=bS q6;refine TL.op1 (OpR.indexM byteD hx11 rfl rfl rfl rfl rfl) rfl ?_;iterate 2 refine aA rfl rfl ?_
 refine aN rfl ?_;refine aS ?_;refine aA rfl rfl ?_;obtain⟨x12,hx12,q6⟩:=bS q6;refine TL.op1 (OpR.call0 fn260 (quote_class_c hx12) rfl) rfl ?_;refine aA rfl rfl ?_;refine aN rfl ?_;obtain⟨t13,ht13,q6⟩:=bS q6;refine T.cutC (fun S'=>S'=⟨[(8,(dN s2.2)),(7,(dN (a0.length:Int))),(6,.sl 1 (lB a0)),(3,(dN t13)),(2,(dN 0))],[],19⟩) (fun _ h=>h) ?_ ?_;rotate_left
 ·rintro _ rfl;show T X _ _ _;refine T.region ?_;iterate 2 refine aA rfl rfl ?_
  refine TL.nil ?_;obtain rfl:=osi q6;exact⟨m4,Nat.lt_succ_self _,_,Gst.only [2,3,6,7,8] rfl,(t13,w64 (s2.2+1)),rfl,i7⟩
 rcases ite_some ht13 with ⟨c14,ht13⟩|⟨c14,ht13⟩;rotate_left
 ·refine T.condF rfl (beq_eq_false_iff_ne.2 c14) ?_;refine T.skip ?_;obtain rfl:=osi ht13;exact⟨_,Gst.only [2,3,6,7,8] rfl,rfl⟩
 refine T.condT rfl (beq_iff_eq.2 c14) ?_;refine T.region ?_;iterate 3 refine aA rfl rfl ?_
 refine TL.nil ?_;obtain rfl:=osi ht13;exact⟨_,Gst.only [2,3,6,7,8] rfl,rfl⟩
noncomputable def quote_Width (a0:List UInt8):Option Int:=
 bnd (quote_Needs a0) fun x1=>
 if x1=true then
 bnd (quote_quotes a0) fun x3=>
 some (w64 ((w64 ((a0.length:Int)+x3))+2))
else
 some (a0.length:Int)
theorem quote_Width_c {a0:List UInt8} {res:Int} (h0:quote_Width a0=some res):CallF X 258 [.sl 1 (lB a0)] [] (fun x=>(dN res)) (fun x=>[]):=by
 unfold quote_Width at h0;refine CallF.mkG (X:=X) rfl Tryz.func258 rfl rfl Tryz.ntmps258 rfl rfl ?_;refine aS ?_;refine aA rfl rfl ?_;refine aN rfl ?_;refine T.seq ?_;refine aS ?_;refine aA rfl rfl ?_;obtain⟨x1,hx1,h0⟩:=bS h0;refine TL.op1 (OpR.call0 fn259 (quote_Needs_c hx1) rfl) rfl ?_;refine aA rfl rfl ?_;refine aN rfl ?_;rcases ite_some h0 with ⟨c2,h0⟩|⟨c2,h0⟩;rotate_left
 ·refine T.condT rfl (not_f (eq_false_of_ne_true c2)) ?_;refine aS ?_;refine aA rfl rfl ?_;refine TL.op1 (OpR.cast (OpR.pure rfl) (intE (lenM _ _))) rfl ?_;refine aA rfl rfl ?_;refine aN rfl ?_;refine T.ret ?_;obtain rfl:=osi h0;exact rO [] [2] rfl undef (cT rfl ResL.nil) rfl rfl rfl rfl
 refine T.condF rfl (not_t (c2)) ?_;refine aK rfl ?_;refine aS ?_;refine aA rfl rfl ?_;refine TL.op1 (OpR.cast (OpR.pure rfl) (intE (lenM _ _))) rfl ?_;refine aA rfl rfl ?_;obtain⟨x3,hx3,h0⟩:=bS h0;refine TL.op1 (OpR.call0 fn273 (quote_quotes_c hx3) rfl) rfl ?_;iterate 3 refine aA rfl rfl ?_
 refine aN rfl ?_;refine T.ret ?_;obtain rfl:=osi h0;exact rO [] [2] rfl undef (cT rfl ResL.nil) rfl rfl rfl rfl
noncomputable def quote_Put.l1 (a0:List UInt8) (s11:Int × (List UInt8)):Option (Lp (Int × (List UInt8)) (List UInt8)):=
 if s11.1<(a0.length:Int) then
 bnd (idx a0 s11.1) fun x20=>
 bnd (quote_class x20) fun x21=>
 bnd (if x21=2 then
 bnd (app 1 s11.2 [x20]) fun x25=>
 some x25
else
 some s11.2:Option (List UInt8)) fun t22=>
 bnd (app 1 t22 [x20]) fun x27=>
 some (Lp.next (w64 (s11.1+1),x27))
else
 some (Lp.done s11.2)
noncomputable def quote_Put (a0:List UInt8):Option (List UInt8):=
 bnd (quote_Width a0) fun x1=>
 bnd ((mkc 1 x1:Option (List UInt8))) fun x2=>
 bnd (quote_Needs a0) fun x4=>
 if x4=true then
 bnd (app 1 x2 [34]) fun x6=>
 bnd (loop (quote_Put.l1 a0) (0,x6):Option (List UInt8)) fun t8=>
 bnd (app 1 t8 [34]) fun x29=>
 some x29
else
 bnd (app 1 x2 a0) fun x31=>
 some x31
theorem quote_Put_c {a0:List UInt8} {res:(List UInt8)} (h0:quote_Put a0=some res):CallF X 230 [.sl 1 (lB a0)] [] (fun x=>.sl 1 (lB res)) (fun x=>[]):=by
 unfold quote_Put at h0;refine CallF.mkG (X:=X) rfl Tryz.func230 rfl rfl Tryz.ntmps230 rfl rfl ?_;refine aS ?_;refine aA rfl rfl ?_;refine aN rfl ?_;refine aS ?_;refine aA rfl rfl ?_;obtain⟨x1,hx1,h0⟩:=bS h0;refine TL.op1 (OpR.call0 fn258 (quote_Width_c hx1) rfl) rfl ?_;obtain⟨x2,hx2,h0⟩:=bS h0;refine TL.op (OpR.makeC byteD hx2 rfl rfl rfl rfl rfl rfl rfl (fun _=>rfl)) rfl (fun v3=>?_);refine aA rfl rfl ?_;refine aN rfl ?_;refine T.seq ?_;refine aS ?_;refine aA rfl rfl ?_;obtain⟨x4,hx4,h0⟩:=bS h0;refine TL.op1 (OpR.call0 fn259 (quote_Needs_c hx4) rfl) rfl ?_;refine aA rfl rfl ?_;refine aN rfl ?_;rcases ite_some h0 with ⟨c5,h0⟩|⟨c5,h0⟩;rotate_left
 ·refine T.condT rfl (not_f (eq_false_of_ne_true c5)) ?_;refine aS ?_;iterate 2 refine aA rfl rfl ?_
  obtain⟨x31,hx31,h0⟩:=bS h0;refine TL.op (OpR.appendM (m:=a0) byteD 0 hx31 rfl rfl rfl rfl rfl rfl rfl rfl rfl (fun _=>rfl)) rfl (fun v32=>?_);refine aA rfl rfl ?_;refine aN rfl ?_;refine T.ret ?_;obtain rfl:=osi h0;exact PostG.retP (ks:=[]) (Gst.trans (Gst.only [2] rfl) (Gst.trans (Gst.freezeRow 0 rfl rfl (ReS.cons (Re.base .all) ReS.nil) (ReO.same ReO.nil)) (Gst.pick [] rfl rfl))) undef (cT rfl ResL.nil) rfl rfl rfl rfl
 refine T.condF rfl (not_t (c5)) ?_;refine aK rfl ?_;refine aS ?_;refine aA rfl rfl ?_;refine TL.op1 (OpR.lit rfl rfl rfl rfl rfl rfl rfl) rfl ?_;obtain⟨x6,hx6,h0⟩:=bS h0;refine TL.op (OpR.appendM (m:=[34]) byteD 0 hx6 rfl rfl rfl rfl rfl rfl rfl rfl rfl (fun _=>rfl)) rfl (fun v7=>?_);refine aA rfl rfl ?_;refine aN rfl ?_;refine T.seq ?_;refine aS ?_;refine aA rfl rfl ?_;refine TL.op1 (OpR.cast (OpR.pure rfl) (intE (lenM _ _))) rfl ?_;refine aA rfl rfl ?_;refine aN rfl ?_;obtain⟨t8,ht8,h0⟩:=bS h0;refine T.cutC (fun S'=>∃ y9:Value,S'=⟨[(3,.val y9),(2,.val (.slice none 0 0))],[.row y9 (lB t8) 1 5],39⟩) (fun _ h=>h) ?_ ?_;rotate_left
 ·rintro _ ⟨y9,rfl⟩;show T X _ _ _;refine aS ?_;refine aA rfl rfl ?_;refine TL.op1 (OpR.lit rfl rfl rfl rfl rfl rfl rfl) rfl ?_;obtain⟨x29,hx29,h0⟩:=bS h0;refine TL.op (OpR.appendM (m:=[34]) byteD 0 hx29 rfl rfl rfl rfl rfl rfl rfl rfl rfl (fun _=>rfl)) rfl (fun v30=>?_);refine aA rfl rfl ?_;refine aN rfl ?_;refine T.ret ?_;obtain rfl:=osi h0;exact PostG.retP (ks:=[]) (Gst.trans (Gst.only [2] rfl) (Gst.trans (Gst.freezeRow 0 rfl rfl (ReS.cons (Re.base .all) ReS.nil) (ReO.same ReO.nil)) (Gst.pick [] rfl rfl))) undef (cT rfl ResL.nil) rfl rfl rfl rfl
 refine T.block ?_;obtain⟨n12,n17⟩:=loop_some ht8;refine T.loop (fun n S'=>∃ S'',Gst S' S''∧∃ y10:Value,∃ s11:Int × (List UInt8),S''=⟨[(20,(dN s11.1)),(19,(dN (a0.length:Int))),(18,.sl 1 (lB a0)),(3,.val y10),(2,.val (.slice none 0 0))],[.row y10 (lB s11.2) 1 5],39⟩∧iter (quote_Put.l1 a0) n s11=some t8) n12 ?_ ?_
 ·exact⟨_,Gst.only [2,3,18,19,20] rfl,v7,(0,x6),rfl,n17⟩
 rintro n12 _ ⟨_,g,y10,s11,rfl,i16⟩;refine T.ghost g ?_;obtain⟨m13,q14,rfl,q15,i16⟩:=iter_succ i16;unfold quote_Put.l1 at q15;refine aS ?_;refine aA rfl rfl ?_;refine aN rfl ?_;refine T.seq ?_;rcases ite_some q15 with ⟨c19,q15⟩|⟨c19,q15⟩;rotate_left
 ·refine T.condF rfl (eF c19) ?_;refine T.exit ?_;obtain rfl:=osi q15;obtain rfl:_=_:=i16;exact⟨_,Gst.only [2,3] rfl,y10,rfl⟩
 refine T.condT rfl (eT c19) ?_;refine aK rfl ?_;refine T.seq ?_;refine T.block ?_;refine aS ?_;obtain⟨x20,hx20,q15⟩:=bS q15;refine TL.op1 (OpR.indexM byteD hx20 rfl rfl rfl rfl rfl) rfl ?_;iterate 2 refine aA rfl rfl ?_
 refine aN rfl ?_;refine T.seq ?_;refine aS ?_;refine aA rfl rfl ?_;obtain⟨x21,hx21,q15⟩:=bS q15;refine TL.op1 (OpR.call0 fn260 (quote_class_c hx21) rfl) rfl ?_;refine aA rfl rfl ?_;refine aN rfl ?_;obtain⟨t22,ht22,q15⟩:=bS q15;refine T.cutC (fun S'=>∃ y23:Value,S'=⟨[(20,(dN s11.1)),(19,(dN (a0.length:Int))),(18,.sl 1 (lB a0)),(5,.val (.int .u8 (x20.toNat:Int))),(3,.val y23),(2,.val (.slice none 0 0))],[.row y23 (lB t22) 1 5],39⟩) (fun _ h=>h) ?_ ?_;rotate_left
 ·rintro _ ⟨y23,rfl⟩;show T X _ _ _;refine T.region ?_;iterate 2 refine aA rfl rfl ?_
  refine TL.op1 (OpR.lit rfl rfl rfl rfl rfl rfl rfl) rfl ?_;obtain⟨x27,hx27,q15⟩:=bS q15;refine TL.op (OpR.appendM (m:=[x20]) byteD 0 hx27 rfl rfl rfl rfl rfl rfl rfl rfl rfl (fun _=>rfl)) rfl (fun v28=>?_);refine aA rfl rfl ?_;refine aN rfl ?_;refine T.region ?_;iterate 2 refine aA rfl rfl ?_
  refine TL.nil ?_;obtain rfl:=osi q15;exact⟨m13,Nat.lt_succ_self _,_,Gst.only [2,3,18,19,20] rfl,v28,(w64 (s11.1+1),x27),rfl,i16⟩
 rcases ite_some ht22 with ⟨c24,ht22⟩|⟨c24,ht22⟩;rotate_left
 ·refine T.condF rfl (beq_eq_false_iff_ne.2 c24) ?_;refine T.skip ?_;obtain rfl:=osi ht22;exact⟨_,Gst.only [2,3,5,18,19,20] rfl,y10,rfl⟩
 refine T.condT rfl (beq_iff_eq.2 c24) ?_;refine T.region ?_;iterate 2 refine aA rfl rfl ?_
 refine TL.op1 (OpR.lit rfl rfl rfl rfl rfl rfl rfl) rfl ?_;obtain⟨x25,hx25,ht22⟩:=bS ht22;refine TL.op (OpR.appendM (m:=[x20]) byteD 0 hx25 rfl rfl rfl rfl rfl rfl rfl rfl rfl (fun _=>rfl)) rfl (fun v26=>?_);refine aA rfl rfl ?_;refine TL.nil ?_;obtain rfl:=osi ht22;exact⟨_,Gst.only [2,3,5,18,19,20] rfl,v26,rfl⟩
noncomputable def cell_Cell_Print (a0:cell_Cell) (a1:List UInt8):Option (List UInt8):=
 if a0.fKept=true then
 bnd (arena_Arena_Bytes a0.fRaw a1) fun x2=>
 some x2
else
 bnd (cell_Cell_Bytes a0 a1) fun x3=>
 bnd (quote_Put x3) fun x4=>
 some x4
theorem cell_Cell_Print_c {a0:cell_Cell} {a1:List UInt8} {b0:Nat} {v1:Value} {res:(List UInt8)} (h0:cell_Cell_Print a0 a1=some res):CallF X 198 [.agg [.sl 2 (List.map e_arena_Span a0.fText.fL),dN a0.fText.fN,dN a0.fRaw.fAt,dN a0.fRaw.fN,dT a0.fKept],dP b0] [.var b0 [.val v1] 264,.row v1 (lB a1) 1 5] (fun x=>.sl 1 (lB res)) (fun x=>[.var b0 [.val v1] 264,.row v1 (lB a1) 1 5]):=by
 unfold cell_Cell_Print at h0;refine CallF.mkG (X:=X) rfl Tryz.func198 rfl rfl Tryz.ntmps198 rfl rfl ?_;refine aS ?_;refine TL.op1 (OpR.boxImm rfl rfl) rfl ?_;refine aA rfl rfl ?_;refine aN rfl ?_;refine T.seq ?_;refine aS ?_;iterate 2 refine aA rfl rfl ?_
 refine aN rfl ?_;rcases ite_some h0 with ⟨c1,h0⟩|⟨c1,h0⟩
 ·refine T.condT rfl (c1) ?_;refine aS ?_;iterate 3 refine aA rfl rfl ?_
  obtain⟨x2,hx2,h0⟩:=bS h0;refine TL.op1 (OpR.call [0,1] fn201 (arena_Arena_Bytes_c hx2) rfl rfl rfl (fun _=>rfl)) rfl ?_;refine aA rfl rfl ?_;refine aN rfl ?_;refine T.ret ?_;obtain rfl:=osi h0;exact rO [0,1] [4] rfl undef (cT rfl ResL.nil) rfl rfl rfl rfl
 refine T.condF rfl (eq_false_of_ne_true c1) ?_;refine aK rfl ?_;refine aS ?_;iterate 2 refine aA rfl rfl ?_
 obtain⟨x3,hx3,h0⟩:=bS h0;refine TL.op1 (OpR.call [0,1] fn113 (cell_Cell_Bytes_c hx3) rfl rfl rfl (fun _=>rfl)) rfl ?_;obtain⟨x4,hx4,h0⟩:=bS h0;refine TL.op1 (OpR.call0 fn230 (quote_Put_c hx4) rfl) rfl ?_;refine aA rfl rfl ?_;refine aN rfl ?_;refine T.ret ?_;obtain rfl:=osi h0;exact rO [0,1] [4] rfl undef (cT rfl ResL.nil) rfl rfl rfl rfl
noncomputable def row_Row_Print.l1 (a0:row_Row) (a1:List UInt8) (s4:Int × (List UInt8)):Option (Lp (Int × (List UInt8)) (List UInt8)):=
 if s4.1<(a0.fCells.length:Int) then
 bnd (idx a0.fCells s4.1) fun x13=>
 bnd (if s4.1>0 then
 bnd (app 1 s4.2 [44]) fun x18=>
 some x18
else
 some s4.2:Option (List UInt8)) fun t15=>
 bnd (cell_Cell_Print x13 a1) fun x20=>
 bnd (app 1 t15 x20) fun x21=>
 some (Lp.next (w64 (s4.1+1),x21))
else
 some (Lp.done s4.2)
noncomputable def row_Row_Print (a0:row_Row) (a1:List UInt8):Option (List UInt8):=
 bnd (loop (row_Row_Print.l1 a0 a1) (0,[]):Option (List UInt8)) fun t1=>
 some t1
theorem row_Row_Print_c {a0:row_Row} {a1:List UInt8} {b0:Nat} {v1:Value} {res:(List UInt8)} (h0:row_Row_Print a0 a1=some res):CallF X 135 [.agg [.sl 5 (List.map e_cell_Cell a0.fCells),dN a0.fEnd,dT a0.fHidden],dP b0] [.var b0 [.val v1] 264,.row v1 (lB a1) 1 5] (fun x=>.sl 1 (lB res)) (fun x=>[.var b0 [.val v1] 264,.row v1 (lB a1) 1 5]):=by
 unfold row_Row_Print at h0;refine CallF.mkG (X:=X) rfl Tryz.func135 rfl rfl Tryz.ntmps135 rfl rfl ?_;refine aS ?_;refine TL.op1 (OpR.boxImm rfl rfl) rfl ?_;refine aA rfl rfl ?_;refine aN rfl ?_;refine aS ?_;refine aA rfl rfl ?_;refine aN rfl ?_;refine T.seq ?_;refine aS ?_;iterate 2 refine aA rfl rfl ?_
 refine TL.op1 (OpR.cast (OpR.pure rfl) (intE (lenM _ _))) rfl ?_;refine aA rfl rfl ?_;refine aN rfl ?_;obtain⟨t1,ht1,h0⟩:=bS h0;refine T.cutC (fun S'=>∃ y2:Value,S'=⟨[(5,.val y2),(4,.val (.slice none 0 0))],[.var b0 [.val v1] 264,.row v1 (lB a1) 1 5,.row y2 (lB t1) 1 5],28⟩) (fun _ h=>h) ?_ ?_;rotate_left
 ·rintro _ ⟨y2,rfl⟩;show T X _ _ _;refine aS ?_;iterate 2 refine aA rfl rfl ?_
  refine aN rfl ?_;refine T.ret ?_;obtain rfl:=osi h0;exact PostG.retP (ks:=[0,1]) (Gst.trans (Gst.only [4] rfl) (Gst.trans (Gst.freezeRow 2 rfl rfl (ReS.cons (Re.base .all) ReS.nil) (ReO.same (ReO.same (ReO.same ReO.nil)))) (Gst.pick [0,1] rfl rfl))) undef (cT rfl ResL.nil) rfl rfl rfl rfl
 refine T.block ?_;obtain⟨n5,n10⟩:=loop_some ht1;refine T.loop (fun n S'=>∃ S'',Gst S' S''∧∃ y3:Value,∃ s4:Int × (List UInt8),S''=⟨[(11,(dN s4.1)),(10,(dN (a0.fCells.length:Int))),(9,.sl 5 (List.map e_cell_Cell a0.fCells)),(5,.val y3),(4,.val (.slice none 0 0)),(1,(dP b0))],[.var b0 [.val v1] 264,.row v1 (lB a1) 1 5,.row y3 (lB s4.2) 1 5],28⟩∧iter (row_Row_Print.l1 a0 a1) n s4=some t1) n5 ?_ ?_
 ·exact⟨_,Gst.trans (Gst.only [1,4,5,9,10,11] rfl) (Gst.nilRow (ow:=[.var b0 [.val v1] 264,.row v1 (lB a1) 1 5]) 1 5 rfl),(.slice none 0 0),(0,[]),rfl,n10⟩
 rintro n5 _ ⟨_,g,y3,s4,rfl,i9⟩;refine T.ghost g ?_;obtain⟨m6,q7,rfl,q8,i9⟩:=iter_succ i9;unfold row_Row_Print.l1 at q8;refine aS ?_;refine aA rfl rfl ?_;refine aN rfl ?_;refine T.seq ?_;rcases ite_some q8 with ⟨c12,q8⟩|⟨c12,q8⟩;rotate_left
 ·refine T.condF rfl (eF c12) ?_;refine T.exit ?_;obtain rfl:=osi q8;obtain rfl:_=_:=i9;exact⟨_,Gst.only [4,5] rfl,y3,rfl⟩
 refine T.condT rfl (eT c12) ?_;refine aK rfl ?_;refine T.seq ?_;refine T.block ?_;refine aS ?_;refine aA rfl rfl ?_;obtain⟨x13,hx13,q8⟩:=bS q8;refine TL.op1 (OpR.indexM e_cell_Cell hx13 rfl rfl rfl rfl rfl) rfl ?_;refine aA rfl rfl ?_;refine TL.op (OpR.alloc rfl rfl (fun _=>rfl)) rfl (fun p14=>?_);refine aA rfl rfl ?_;refine TL.op0 (OpR.store 3 rfl rfl rfl rfl rfl rfl rfl rfl) ?_;refine aN rfl ?_;refine T.seq ?_;refine aS ?_;iterate 2 refine aA rfl rfl ?_
 refine aN rfl ?_;obtain⟨t15,ht15,q8⟩:=bS q8;refine T.cutC (fun S'=>∃ y16:Value,S'=⟨[(11,(dN s4.1)),(10,(dN (a0.fCells.length:Int))),(9,.sl 5 (List.map e_cell_Cell a0.fCells)),(7,(dP (blk p14))),(5,.val y16),(4,.val (.slice none 0 0)),(1,(dP b0))],[.var b0 [.val v1] 264,.row v1 (lB a1) 1 5,.row y16 (lB t15) 1 5,.var (blk p14) [.sl 2 (List.map e_arena_Span x13.fText.fL),dN x13.fText.fN,dN x13.fRaw.fAt,dN x13.fRaw.fN,dT x13.fKept] 144],28⟩) (fun _ h=>h) ?_ ?_
 ·rcases ite_some ht15 with ⟨c17,ht15⟩|⟨c17,ht15⟩;rotate_left
  ·refine T.condF rfl (eF c17) ?_;refine T.skip ?_;obtain rfl:=osi ht15;exact⟨_,Gst.only [1,4,5,7,9,10,11] rfl,y3,rfl⟩
  refine T.condT rfl (eT c17) ?_;refine T.region ?_;refine aA rfl rfl ?_;refine TL.op1 (OpR.lit rfl rfl rfl rfl rfl rfl rfl) rfl ?_;obtain⟨x18,hx18,ht15⟩:=bS ht15;refine TL.op (OpR.appendM (m:=[44]) byteD 2 hx18 rfl rfl rfl rfl rfl rfl rfl rfl rfl (fun _=>rfl)) rfl (fun v19=>?_);refine aA rfl rfl ?_;refine TL.nil ?_;obtain rfl:=osi ht15;exact⟨_,Gst.only [1,4,5,7,9,10,11] rfl,v19,rfl⟩
 rintro _ ⟨y16,rfl⟩;show T X _ _ _;refine T.region ?_;refine aA rfl rfl ?_;refine TL.op1 (OpR.loadPtr 3 rfl rfl rfl rfl) rfl ?_;refine aA rfl rfl ?_;obtain⟨x20,hx20,q8⟩:=bS q8;refine TL.op1 (OpR.call [0,1] fn198 (cell_Cell_Print_c hx20) rfl rfl rfl (fun _=>rfl)) rfl ?_;obtain⟨x21,hx21,q8⟩:=bS q8;refine TL.op (OpR.appendM (m:=x20) byteD 2 hx21 rfl rfl rfl rfl rfl rfl rfl rfl rfl (fun _=>rfl)) rfl (fun v22=>?_);refine aA rfl rfl ?_;refine aN rfl ?_;refine T.region ?_;iterate 2 refine aA rfl rfl ?_
 refine TL.nil ?_;obtain rfl:=osi q8;exact⟨m6,Nat.lt_succ_self _,_,gP [1,4,5,9,10,11] [0,1,2] rfl rfl rfl,v22,(w64 (s4.1+1),x21),rfl,i9⟩
noncomputable def scan_Mark (a0:Int):Option (List UInt8):=
 if a0=1 then
 some [10]
else
 if a0=2 then
 some [13,10]
else
 if a0=3 then
 some [13]
else
 some []
theorem scan_Mark_c {a0:Int} {res:(List UInt8)} (h0:scan_Mark a0=some res):CallF X 199 [dN a0] [] (fun x=>.val (.string (bs res))) (fun x=>[]):=by
 unfold scan_Mark at h0;refine CallF.mkG (X:=X) rfl Tryz.func199 rfl rfl Tryz.ntmps199 rfl rfl ?_;refine aS ?_;refine aA rfl rfl ?_;refine aN rfl ?_;refine T.seq ?_;refine aS ?_;refine aA rfl rfl ?_;refine aN rfl ?_;refine T.block ?_;refine aS ?_;iterate 2 refine aA rfl rfl ?_
 refine aN rfl ?_;rcases ite_some h0 with ⟨c1,h0⟩|⟨c1,h0⟩
 ·refine T.condT rfl (beq_iff_eq.2 c1) ?_;refine aS ?_;refine aA rfl rfl ?_;refine aN rfl ?_;refine T.ret ?_;obtain rfl:=osi h0;exact rO [] [2] rfl undef (cT rfl ResL.nil) rfl rfl rfl rfl
 refine T.condF rfl (beq_eq_false_iff_ne.2 c1) ?_;refine aS ?_;iterate 2 refine aA rfl rfl ?_
 refine aN rfl ?_;rcases ite_some h0 with ⟨c2,h0⟩|⟨c2,h0⟩
 ·refine T.condT rfl (beq_iff_eq.2 c2) ?_;refine aS ?_;refine aA rfl rfl ?_;refine aN rfl ?_;refine T.ret ?_;obtain rfl:=osi h0;exact rO [] [2] rfl undef (cT rfl ResL.nil) rfl rfl rfl rfl
 refine T.condF rfl (beq_eq_false_iff_ne.2 c2) ?_;refine aS ?_;iterate 2 refine aA rfl rfl ?_
 refine aN rfl ?_;rcases ite_some h0 with ⟨c3,h0⟩|⟨c3,h0⟩
 ·refine T.condT rfl (beq_iff_eq.2 c3) ?_;refine aS ?_;refine aA rfl rfl ?_;refine aN rfl ?_;refine T.ret ?_;obtain rfl:=osi h0;exact rO [] [2] rfl undef (cT rfl ResL.nil) rfl rfl rfl rfl
 refine T.condF rfl (beq_eq_false_iff_ne.2 c3) ?_;refine aK rfl ?_;refine aS ?_;refine aA rfl rfl ?_;refine aN rfl ?_;refine T.ret ?_;obtain rfl:=osi h0;exact rO [] [2] rfl undef (cT rfl ResL.nil) rfl rfl rfl rfl
noncomputable def grid_Grid_mark (a0:grid_Grid) (a1:row_Row):Option (List UInt8):=
 if a1.fEnd=0 then
 bnd (scan_Mark a0.fEnd) fun x2=>
 some x2
else
 bnd (scan_Mark a1.fEnd) fun x3=>
 some x3
theorem grid_Grid_mark_c {a0:grid_Grid} {a1:row_Row} {res:(List UInt8)} (h0:grid_Grid_mark a0 a1=some res):CallF X 136 [.agg [(eOP a0.fRows.fRoot),dT a0.fTail,dN a0.fEnd],.agg [.sl 5 (List.map e_cell_Cell a1.fCells),dN a1.fEnd,dT a1.fHidden]] [] (fun x=>.val (.string (bs res))) (fun x=>[]):=by
 unfold grid_Grid_mark at h0;refine CallF.mkG (X:=X) rfl Tryz.func136 rfl rfl Tryz.ntmps136 rfl rfl ?_;refine aS ?_;refine TL.op1 (OpR.boxImm rfl rfl) rfl ?_;refine TL.op1 (OpR.boxImm rfl rfl) rfl ?_;refine aA rfl rfl ?_;refine aN rfl ?_;refine T.seq ?_;refine aS ?_;iterate 3 refine aA rfl rfl ?_
 refine aN rfl ?_;rcases ite_some h0 with ⟨c1,h0⟩|⟨c1,h0⟩
 ·refine T.condT rfl (beq_iff_eq.2 c1) ?_;refine aS ?_;iterate 2 refine aA rfl rfl ?_
  obtain⟨x2,hx2,h0⟩:=bS h0;refine TL.op1 (OpR.call0 fn199 (scan_Mark_c hx2) rfl) rfl ?_;refine aA rfl rfl ?_;refine aN rfl ?_;refine T.ret ?_;obtain rfl:=osi h0;exact rO [] [4] rfl undef (cT rfl ResL.nil) rfl rfl rfl rfl
 refine T.condF rfl (beq_eq_false_iff_ne.2 c1) ?_;refine aK rfl ?_;refine aS ?_;iterate 2 refine aA rfl rfl ?_
 obtain⟨x3,hx3,h0⟩:=bS h0;refine TL.op1 (OpR.call0 fn199 (scan_Mark_c hx3) rfl) rfl ?_;refine aA rfl rfl ?_;refine aN rfl ?_;refine T.ret ?_;obtain rfl:=osi h0;exact rO [] [4] rfl undef (cT rfl ResL.nil) rfl rfl rfl rfl
noncomputable def grid_Grid_Save_r0_2 (a0:Int) (a1:row_Row) (a2:Option NP) (a3:Bool) (a4:Int) (a5:List UInt8) (a6:List UInt8):Option (List UInt8):=
 bnd (row_Row_Print a1 a5) fun x32=>
 bnd (app 1 a6 x32) fun x33=>
 bnd (bnd (grid_Grid_Len (⟨(⟨a2⟩:tTr),a3,a4⟩:grid_Grid)) fun x36=>
 if a0<(w64 (x36-1)) then
 some true
else
 if a3=true then
 some true
else
 some ((x32.length:Int)==0):Option Bool) fun t35=>
 if t35=true then
 bnd (grid_Grid_mark (⟨(⟨a2⟩:tTr),a3,a4⟩:grid_Grid) a1) fun x41=>
 bnd (app 1 x33 x41) fun x42=>
 some x42
else
 some x33
theorem grid_Grid_Save_r0_2_c {a0:Int} {a1:row_Row} {a2:Option NP} {a3:Bool} {a4:Int} {a5:List UInt8} {a6:List UInt8} {b0:Nat} {b1:Nat} {b2:Nat} {v3:Value} {v4:Value} {res:(List UInt8)} (h0:grid_Grid_Save_r0_2 a0 a1 a2 a3 a4 a5 a6=some res):RoundF X b0 [dN a0,.agg [.sl 5 (List.map e_cell_Cell a1.fCells),dN a1.fEnd,dT a1.fHidden]] [.lp b0 .ready none [14,15] rfA69_0 rfB69_0 [(5,(dP b2)),(3,.nod [dP b1]),(2,.nod [(eOP a2),dT a3,dN a4])] 42,.var b1 [.val v3] 264,.var b2 [.val v4] 122,.row v3 (lB a5) 1 5,.row v4 (lB a6) 1 5] (fun x=>(dT true)) (fun x=>[.lp b0 .ready none [14,15] rfA69_0 rfB69_0 [(5,(dP b2)),(3,.nod [dP b1]),(2,.nod [(eOP a2),dT a3,dN a4])] 42,.var b1 [.val v3] 264,.var b2 [.val (vn x 0)] 122,.row v3 (lB a5) 1 5,.row (vn x 0) (lB res) 1 5]):=by
 unfold grid_Grid_Save_r0_2 at h0;refine RoundF.mk (X:=X) rfl rfl rfl ?_;refine aS ?_;refine aA rfl rfl ?_;refine TL.nil ?_;show T (X.inR b0) _ _ _;refine T.region ?_;refine TL.op (OpR.alloc rfl rfl (fun _=>rfl)) rfl (fun p31=>?_);refine TL.op0 (OpR.store 5 rfl rfl rfl rfl rfl rfl rfl rfl) ?_;refine TL.nil ?_;refine RoundA.mk ?_;refine T.block ?_;refine aS ?_;refine TL.op1 (OpR.loadPtr 5 rfl rfl rfl rfl) rfl ?_;refine aA rfl rfl ?_;obtain⟨x32,hx32,h0⟩:=bS h0;refine TL.op1 (OpR.call [1,3] fn135 (row_Row_Print_c hx32) rfl rfl rfl (fun _=>rfl)) rfl ?_;refine aA rfl rfl ?_;refine TL.nil ?_;show T (X.inR b0) _ _ _;refine aS ?_;refine TL.op1 (OpR.loadPtr 2 rfl rfl rfl rfl) rfl ?_;refine aA rfl rfl ?_;obtain⟨x33,hx33,h0⟩:=bS h0;refine TL.op (OpR.appendM (m:=x32) byteD 4 hx33 rfl rfl rfl rfl rfl rfl rfl rfl rfl (fun _=>rfl)) rfl (fun v34=>?_);refine TL.op0 (OpR.store 2 rfl rfl rfl rfl rfl rfl rfl rfl) ?_;refine TL.nil ?_;show T (X.inR b0) _ _ _;refine T.seq ?_;obtain⟨t35,ht35,h0⟩:=bS h0;refine T.cutC (fun S'=>S'=⟨[(35,(dT t35)),(7,(dP (blk p31))),(5,(dP b2)),(2,.nod [(eOP a2),dT a3,dN a4])],[.lp b0 .busy none [14,15] rfA69_0 rfB69_0 [(5,(dP b2)),(3,.nod [dP b1]),(2,.nod [(eOP a2),dT a3,dN a4])] 42,.var b1 [.val v3] 264,.var b2 [.val v34] 122,.row v3 (lB a5) 1 5,.row v34 (lB x33) 1 5,.var (blk p31) [.sl 5 (List.map e_cell_Cell a1.fCells),dN a1.fEnd,dT a1.fHidden] 49],42⟩) (fun _ h=>h) ?_ ?_
 ·refine T.region ?_;iterate 2 refine aA rfl rfl ?_
  obtain⟨x36,hx36,ht35⟩:=bS ht35;refine TL.op1 (OpR.call0 fn22 (grid_Grid_Len_c hx36) rfl) rfl ?_;iterate 3 refine aA rfl rfl ?_
  rcases ite_some ht35 with ⟨c37,ht35⟩|⟨c37,ht35⟩
  ·refine TL.off rfl rfl rfl rfl (eT c37) rfl rfl ?_;refine TL.off rfl rfl rfl rfl (eT c37) rfl rfl ?_;refine TL.op1 (OpR.pickT rfl (eT c37) rfl) rfl ?_;refine aA rfl rfl ?_;refine TL.off rfl rfl rfl rfl rfl rfl rfl ?_;refine TL.off rfl rfl rfl rfl rfl rfl rfl ?_;refine TL.off rfl rfl rfl rfl rfl rfl rfl ?_;refine TL.op1 (OpR.pickT rfl rfl rfl) rfl ?_;refine TL.nil ?_;obtain rfl:=osi ht35;exact⟨_,Gst.only [2,5,7,35] rfl,rfl⟩
  refine TL.on rfl rfl rfl rfl (eF c37) ?_;refine aA rfl rfl ?_;refine TL.on rfl rfl rfl rfl (eF c37) ?_;refine aA rfl rfl ?_;refine TL.op1 (OpR.pickF rfl (eF c37) rfl) rfl ?_;refine aA rfl rfl ?_;rcases ite_some ht35 with ⟨c38,ht35⟩|⟨c38,ht35⟩
  ·refine TL.off rfl rfl rfl rfl (c38) rfl rfl ?_;refine TL.off rfl rfl rfl rfl (c38) rfl rfl ?_;refine TL.off rfl rfl rfl rfl (c38) rfl rfl ?_;refine TL.op1 (OpR.pickT rfl (c38) rfl) rfl ?_;refine TL.nil ?_;obtain rfl:=osi ht35;exact⟨_,Gst.only [2,5,7,35] rfl,rfl⟩
  refine TL.on rfl rfl rfl rfl (eq_false_of_ne_true c38) ?_;refine aA rfl rfl ?_;refine TL.on rfl rfl rfl rfl (eq_false_of_ne_true c38) ?_;refine TL.op1 (OpR.cast (OpR.pure rfl) (intE (lenM _ _))) rfl ?_;refine TL.on rfl rfl rfl rfl (eq_false_of_ne_true c38) ?_;refine aA rfl rfl ?_;refine TL.op1 (OpR.pickF rfl (eq_false_of_ne_true c38) rfl) rfl ?_;refine TL.nil ?_;obtain rfl:=osi ht35;exact⟨_,Gst.only [2,5,7,35] rfl,rfl⟩
 rintro _ rfl;show T (X.inR b0) _ _ _;rcases ite_some h0 with ⟨c39,h0⟩|⟨c39,h0⟩;rotate_left
 ·refine T.condF rfl (eq_false_of_ne_true c39) ?_;refine T.skip ?_;obtain rfl:=osi h0;exact RoundG.mk (ks:=[0,1,2,3,4]) (gP [] [0,1,2,3,4] rfl rfl rfl) (.tuple #[v34]) rfl rfl rfl rfl rfl
 refine T.condT rfl (c39) ?_;obtain⟨x41,hx41,h0⟩:=bS h0;obtain⟨x42,hx42,h0⟩:=bS h0;refine T.drawS drawsX (fun env40=>[.val v34,.agg [(eOP a2),dT a3,dN a4],.agg [.sl 5 (List.map e_cell_Cell a1.fCells),dN a1.fEnd,dT a1.fHidden],.val (.string (bs x41)),.val (env40 4),.dead]) (fun D env40=>[.lp b0 .busy none [14,15] rfA69_0 rfB69_0 [(5,(dP b2)),(3,.nod [dP b1]),(2,.nod [(eOP a2),dT a3,dN a4])] 42,.var b1 [.val v3] 264,(bif D 5 then .var b2 [.val (env40 4)] 122 else .var b2 [.val v34] 122),.row v3 (lB a5) 1 5,(bif D 4 then .row (env40 4) (lB x42) 1 5 else .row v34 (lB x33) 1 5),.var (blk p31) [.sl 5 (List.map e_cell_Cell a1.fCells),dN a1.fEnd,dT a1.fHidden] 49]) [0,0,0,6,15,31] [] _ (by decide +kernel) (by decide +kernel) (fun _=>rfl) (fun _=>rfl) ?_ (fun _=>rfl) (fun _=>rfl) ?_;rotate_left
 ·intro env40;obtain rfl:=osi h0;exact RoundG.mk (ks:=[0,1,2,3,4]) (gP [] [0,1,2,3,4] rfl rfl rfl) (.tuple #[(env40 4)]) rfl rfl rfl rfl rfl
 refine OpsS.cons' true ?_ (fun _ _ _ _ _ _ _=>rfl) ?_
 ·intro D env40 hA;have e4:D 4=false:=hA.no 4 _ rfl rfl;have e5:D 5=false:=hA.no 5 _ rfl rfl;exact OpS.yp [(4,false),(5,false)] ⟨e4,e5,trivial⟩ (Want.plain rfl) (OpR.loadPtr 2 rfl rfl rfl rfl) (fun x=>rfl) (fun x=>rfl)
 refine aC ?_;refine oT (.agg [.sl 5 (List.map e_cell_Cell a1.fCells),dN a1.fEnd,dT a1.fHidden]) (fun _ _=>OpR.loadPtr 5 rfl rfl rfl rfl) ?_;refine oT (.val (.string (bs x41))) (fun _ _=>OpR.call0 fn136 (grid_Grid_mark_c hx41) rfl) ?_;refine OpsS.cons' true ?_ (fun D hA env40 x j hj hD=>match j,hj,hD with|0,_,_=>rfl|1,_,_=>rfl|2,_,_=>rfl|3,_,_=>rfl|4,hj,_=>absurd rfl hj|5,_,_=>rfl|_+6,_,_=>rfl) ?_
 ·intro D env40 hA;have e5:D 5=false:=hA.no 5 _ rfl rfl;exact OpS.yp [(5,false),(4,false)] ⟨e5,hA.me,trivial⟩ (Want.plain rfl) (OpR.appendStr (m:=x41) 4 hx42 rfl rfl rfl rfl rfl rfl rfl rfl rfl rfl rfl (fun _=>rfl)) (fun x=>rfl) (fun x=>rfl)
 refine OpsS.cons' true ?_ (fun _ _ _ _ _ _ _=>rfl) ?_
 ·intro D env40 hA;have e4:D 4=true:=hA.yes 4 _ rfl rfl;exact OpS.yp [(4,true),(5,false)] ⟨e4,hA.me,trivial⟩ (Want.plain rfl) (OpR.store 2 rfl rfl rfl rfl rfl rfl rfl rfl) (fun x=>rfl) (fun x=>rfl)
 exact trivial
noncomputable def walk_Range_row_Row_1_3.l1 (a0:Option NP) (a1:Bool) (a2:Int) (a4:Int) (a6:List UInt8) (s10:Int × (List UInt8) × (List wFr)):Option (Lp (Int × (List UInt8) × (List wFr)) (List UInt8)):=
 if s10.1<a4 then
  bnd (walk_stack_row_Row_top s10.2.2) fun x19=>
  bnd (idx s10.2.2 x19) fun x20=>
  bnd (some x20.fN) fun q21=>match q21 with
   | none=>
    none
   | some z22=>
    bnd (o_tNd z22) fun x24=>
    bnd (if x20.fNext=(x24.fItems.length:Int) then
     bnd (walk_stack_row_Row_forth s10.2.2) fun x29=>
     some x29.2
    else
     some s10.2.2:Option (List wFr)) fun t26=>
    bnd (walk_stack_row_Row_top t26) fun x31=>
    bnd (idx t26 x31) fun x32=>
    bnd (some x32.fN) fun q33=>match q33 with
     | none=>
      none
     | some z34=>
      bnd (o_tNd z34) fun x36=>
      bnd (idx x36.fItems x32.fNext) fun x38=>
      bnd (grid_Grid_Save_r0_2 s10.1 x38 a0 a1 a2 a6 s10.2.1) fun x39=>
      some (Lp.next (w64 (s10.1+1),x39,(t26.set x31.toNat (⟨x32.fN,x32.fFirst,w64 (x32.fNext+1)⟩:wFr))))
 else
  some (Lp.done s10.2.1)
noncomputable def walk_Range_row_Row_1_3 (a0:Option NP) (a1:Bool) (a2:Int) (a3:Int) (a4:Int) (a5:Option NP) (a6:List UInt8):Option (List UInt8):=
 if a3=a4 then
 some []
else
 bnd (tree_Tree_row_Row_Root (⟨a5⟩:tTr)) fun x4=>
 match x4 with
| .inl x4=>
 none
| .inr x4=>
 bnd (walk_stack_row_Row_down x4.1 x4.2.1 x4.2.2 0 a3) fun x5=>
 bnd (loop (walk_Range_row_Row_1_3.l1 a0 a1 a2 a4 a6) (a3,[],x5):Option (List UInt8)) fun t6=>
 some t6
theorem walk_Range_row_Row_1_3_c {a0:Option NP} {a1:Bool} {a2:Int} {a3:Int} {a4:Int} {a5:Option NP} {a6:List UInt8} {b0:Nat} {b1:Nat} {b2:Nat} {b3:Nat} {b4:Nat} {b5:Nat} {v6:Value} {res:(List UInt8)} (h0:walk_Range_row_Row_1_3 a0 a1 a2 a3 a4 a5 a6=some res):CallF X 146 [.fn (.yield b0) [] [],dP b1,dP b2,dP b3] [.lp b0 .ready none [14,15] rfA69_0 rfB69_0 [(5,(dP b5)),(3,.nod [dP b4]),(2,.nod [(eOP a0),dT a1,dN a2])] 42,.var b1 [dN a3] 3,.var b2 [dN a4] 3,.var b3 [(eOP a5)] 25,.var b4 [.val v6] 264,.var b5 [.val (.slice none 0 0)] 122,.row v6 (lB a6) 1 5] (fun x=>.tup []) (fun x=>[.lp b0 .ready none [14,15] rfA69_0 rfB69_0 [(5,(dP b5)),(3,.nod [dP b4]),(2,.nod [(eOP a0),dT a1,dN a2])] 42,.var b1 [dN a3] 3,.var b2 [dN a4] 3,.var b3 [(eOP a5)] 25,.var b4 [.val v6] 264,.var b5 [.val (vn x 0)] 122,.row v6 (lB a6) 1 5,.row (vn x 0) (lB res) 1 5]):=by
 unfold walk_Range_row_Row_1_3 at h0;refine CallF.mkG (X:=X) rfl Tryz.func146 rfl rfl Tryz.ntmps146 rfl rfl ?_;refine T.seq ?_;refine aS ?_;refine TL.op1 (OpR.loadPtr 1 rfl rfl rfl rfl) rfl ?_;refine TL.op1 (OpR.loadPtr 2 rfl rfl rfl rfl) rfl ?_;refine aA rfl rfl ?_;refine aN rfl ?_;rcases ite_some h0 with ⟨c1,h0⟩|⟨c1,h0⟩
 ·refine T.condT rfl (beq_iff_eq.2 c1) ?_;refine T.ret ?_;obtain rfl:=osi h0;exact PostG.retP (ks:=[0,1,2,3,4,5,6,7]) (Gst.trans (Gst.only [] rfl) (Gst.nilRow (ow:=[.lp b0 .ready none [14,15] rfA69_0 rfB69_0 [(5,(dP b5)),(3,.nod [dP b4]),(2,.nod [(eOP a0),dT a1,dN a2])] 42,.var b1 [dN a3] 3,.var b2 [dN a4] 3,.var b3 [(eOP a5)] 25,.var b4 [.val v6] 264,.var b5 [.val (.slice none 0 0)] 122,.row v6 (lB a6) 1 5]) 1 5 rfl)) (.tuple #[(.slice none 0 0)]) ResL.nil rfl rfl rfl rfl
 refine T.condF rfl (beq_eq_false_iff_ne.2 c1) ?_;refine aK rfl ?_;refine aS ?_;refine TL.op (OpR.alloc rfl rfl (fun _=>rfl)) rfl (fun p2=>?_);refine aN rfl ?_;refine T.seq ?_;obtain⟨x4,hx4,h0⟩:=bS h0;rcases x4 with x4|x4
 ·dsimp only at h0;exact (by cases h0)
 dsimp only at h0;obtain⟨x5,hx5,h0⟩:=bS h0;refine T.drawS drawsX (fun env3=>[.agg [(eOP a5)],.nod [.sl 1 (List.map eNP x4.1),.sl 3 (List.map e_row_Row x4.2.1),dN x4.2.2],dN a3,.tup []]) (fun D env3=>[.lp b0 .ready none [14,15] rfA69_0 rfB69_0 [(5,(dP b5)),(3,.nod [dP b4]),(2,.nod [(eOP a0),dT a1,dN a2])] 42,.var b1 [dN a3] 3,.var b2 [dN a4] 3,.var b3 [(eOP a5)] 25,.var b4 [.val v6] 264,.var b5 [.val (.slice none 0 0)] 122,.row v6 (lB a6) 1 5,(bif D 3 then .var (blk p2) [.val (vn (env3 3) 0)] 228 else .var (blk p2) [.val (.slice none 0 0)] 228)]++(bif D 3 then [.row (vn (env3 3) 0) (List.map e_wFr x5) 3 234] else [])) [0,1,0,7] [0,1,2,5] _ (by decide +kernel) (by decide +kernel) (fun _=>rfl) (fun _=>rfl) ?_ (fun _=>rfl) (fun _=>rfl) ?_
 ·refine oT (.agg [(eOP a5)]) (fun _ _=>OpR.loadPtr 3 rfl rfl rfl rfl) ?_;refine oT (.nod [.sl 1 (List.map eNP x4.1),.sl 3 (List.map e_row_Row x4.2.1),dN x4.2.2]) (fun _ _=>OpR.call0 fn148 (tree_Tree_row_Row_Root_cx2 hx4) rfl) ?_;refine oT ((dN a3)) (fun _ _=>OpR.loadPtr 1 rfl rfl rfl rfl) ?_;refine OpsS.cons' true ?_ (fun D hA env3 x j hj hD=>match j,hj,hD with|0,_,_=>rfl|1,_,_=>rfl|2,_,_=>rfl|3,hj,_=>absurd rfl hj|_+4,_,_=>rfl) ?_
  ·intro D env3 hA;exact OpS.yp [(3,false)] ⟨hA.me,trivial⟩ (Want.plain rfl) (OpR.call [7] fn147 (walk_stack_row_Row_down_c hx5) rfl rfl rfl (fun _=>rfl)) (fun x=>rfl) (fun x=>rfl)
  exact trivial
 intro env3;show T X _ _ _;refine aS ?_;refine TL.op1 (OpR.loadPtr 1 rfl rfl rfl rfl) rfl ?_;refine aA rfl rfl ?_;refine aN rfl ?_;obtain⟨t6,ht6,h0⟩:=bS h0;refine T.cutN (fun S'=>∃ y7:Value,S'=⟨[],[.lp b0 .ready none [14,15] rfA69_0 rfB69_0 [(5,(dP b5)),(3,.nod [dP b4]),(2,.nod [(eOP a0),dT a1,dN a2])] 42,.var b1 [dN a3] 3,.var b2 [dN a4] 3,.var b3 [(eOP a5)] 25,.var b4 [.val v6] 264,.var b5 [.val y7] 122,.row v6 (lB a6) 1 5,.row y7 (lB t6) 1 5],62⟩) (fun _ _ g ⟨h,S',ds,g',r⟩=>⟨h,S',ds,Gst.trans g g',r⟩) ?_ ?_;rotate_left
 ·rintro _ ⟨y7,rfl⟩;obtain rfl:=osi h0;exact PostG.finP (ks:=[0,1,2,3,4,5,6,7]) (Gst.only [] rfl) (.tuple #[y7]) ResL.nil rfl rfl rfl rfl
 refine T.block ?_;obtain⟨n11,n16⟩:=loop_some ht6;refine T.loop (fun n S'=>∃ S'',Gst S' S''∧∃ y8:Value,∃ y9:Value,∃ s10:Int × (List UInt8) × (List wFr),S''=⟨[(6,(dN s10.1)),(5,(dP (blk p2))),(2,(dP b2)),(0,.fn (.yield b0) [] [])],[.lp b0 .ready none [14,15] rfA69_0 rfB69_0 [(5,(dP b5)),(3,.nod [dP b4]),(2,.nod [(eOP a0),dT a1,dN a2])] 42,.var b1 [dN a3] 3,.var b2 [dN a4] 3,.var b3 [(eOP a5)] 25,.var b4 [.val v6] 264,.var b5 [.val y8] 122,.row v6 (lB a6) 1 5,.var (blk p2) [.val y9] 228,.row y8 (lB s10.2.1) 1 5,.row y9 (List.map e_wFr s10.2.2) 3 234],62⟩∧iter (walk_Range_row_Row_1_3.l1 a0 a1 a2 a4 a6) n s10=some t6) n11 ?_ ?_
 ·exact⟨_,Gst.trans (Gst.only [0,2,5,6] rfl) (Gst.trans (Gst.nilRow (ow:=[.lp b0 .ready none [14,15] rfA69_0 rfB69_0 [(5,(dP b5)),(3,.nod [dP b4]),(2,.nod [(eOP a0),dT a1,dN a2])] 42,.var b1 [dN a3] 3,.var b2 [dN a4] 3,.var b3 [(eOP a5)] 25,.var b4 [.val v6] 264,.var b5 [.val (.slice none 0 0)] 122,.row v6 (lB a6) 1 5,.var (blk p2) [.val (vn (env3 3) 0)] 228,.row (vn (env3 3) 0) (List.map e_wFr x5) 3 234]) 1 5 rfl) (Gst.pick [0,1,2,3,4,5,6,7,9,8] rfl rfl)),(.slice none 0 0),(vn (env3 3) 0),(a3,[],x5),rfl,n16⟩
 rintro n11 _ ⟨_,g,y8,y9,s10,rfl,i15⟩;refine T.ghost g ?_;obtain⟨m12,q13,rfl,q14,i15⟩:=iter_succ i15;unfold walk_Range_row_Row_1_3.l1 at q14;refine T.seq ?_;refine aS ?_;refine aA rfl rfl ?_;refine TL.op1 (OpR.loadPtr 2 rfl rfl rfl rfl) rfl ?_;refine aA rfl rfl ?_;refine aN rfl ?_;rcases ite_some q14 with ⟨c18,q14⟩|⟨c18,q14⟩;rotate_left
 ·refine T.condF rfl (eF c18) ?_;refine T.exit ?_;obtain rfl:=osi q14;obtain rfl:_=_:=i15;exact⟨_,gP [] [0,1,2,3,4,5,6,8] rfl rfl rfl,y8,rfl⟩
 refine T.condT rfl (eT c18) ?_;refine aK rfl ?_;refine T.seq ?_;refine T.block ?_;refine T.seq ?_;refine aS ?_;obtain⟨x19,hx19,q14⟩:=bS q14;refine TL.op1 (OpR.call [7,9] fn149 (walk_stack_row_Row_top_c hx19) rfl rfl rfl (fun _=>rfl)) rfl ?_;refine aA rfl rfl ?_;refine aN rfl ?_;refine T.seq ?_;obtain⟨x20,hx20,q14⟩:=bS q14;obtain⟨q21,hq21,q14⟩:=bS q14;rcases q21 with _|z22
 ·dsimp only at q14;exact (by cases q14)
 dsimp only at q14;obtain⟨x24,hx24,q14⟩:=bS q14;rw[o_tNd_eq hx24] at hq21;refine T.drawQ drawsX [.val (.pointer (some ⟨blk y9,x19.toNat*3,none⟩)),.val (.pointer (some ⟨blk y9,x19.toNat*3,none⟩)),.val (.pointer (some ⟨blk y9,x19.toNat*3+2,none⟩)),dN x20.fNext,.val (.pointer (some ⟨blk y9,x19.toNat*3,none⟩)),.val (.pointer (some ⟨blk y9,x19.toNat*3,none⟩)),.val (.pointer (some ⟨blk y9,x19.toNat*3,none⟩)),.nod [.sl 1 (List.map eNP x24.fKids),.sl 3 (List.map e_row_Row x24.fItems),dN x24.fN],.nod [.sl 1 (List.map eNP x24.fKids),.sl 3 (List.map e_row_Row x24.fItems),dN x24.fN],.nod [.sl 3 (List.map e_row_Row x24.fItems),dN x24.fN],.sl 3 (List.map e_row_Row x24.fItems),dN (x24.fItems.length:Int),dT (x20.fNext==(x24.fItems.length:Int))] [0,2,5,6,35] (by decide +kernel) rfl ?_ rfl ?_
 ·iterate 3 refine aB rfl rfl rfl ?_
  refine OpsQ.yes (Want.plain rfl) rfl (OpR.rowLoadM (j:=x19) e_wFr 9 hx20 rfl rfl rfl rfl) ?_;iterate 3 refine aB rfl rfl rfl ?_
  refine OpsQ.yes (Want.plain rfl) rfl (OpR.cast (OpR.rowLoad0M (j:=x19) e_wFr 9 hx20 rfl rfl rfl rfl) (congrArg eOP (osi hq21))) ?_;iterate 3 refine aB rfl rfl rfl ?_
  refine OpsQ.yes (Want.plain rfl) rfl (OpR.cast (OpR.pure rfl) (intE (lenM _ _))) ?_;refine aB rfl rfl rfl ?_;exact OpsQ.nil
 show T X _ _ _;obtain⟨t26,ht26,q14⟩:=bS q14;refine T.cutC (fun S'=>∃ y27:Value,S'=⟨[(6,(dN s10.1)),(5,(dP (blk p2))),(2,(dP b2)),(0,.fn (.yield b0) [] [])],[.lp b0 .ready none [14,15] rfA69_0 rfB69_0 [(5,(dP b5)),(3,.nod [dP b4]),(2,.nod [(eOP a0),dT a1,dN a2])] 42,.var b1 [dN a3] 3,.var b2 [dN a4] 3,.var b3 [(eOP a5)] 25,.var b4 [.val v6] 264,.var b5 [.val y8] 122,.row v6 (lB a6) 1 5,.var (blk p2) [.val y27] 228,.row y8 (lB s10.2.1) 1 5,.row y27 (List.map e_wFr t26) 3 234],62⟩) (fun _ h=>h) ?_ ?_
 ·rcases ite_some ht26 with ⟨c28,ht26⟩|⟨c28,ht26⟩;rotate_left
  ·refine T.condF rfl (beq_eq_false_iff_ne.2 c28) ?_;refine T.skip ?_;obtain rfl:=osi ht26;exact⟨_,Gst.only [0,2,5,6] rfl,y9,rfl⟩
  refine T.condT rfl (beq_iff_eq.2 c28) ?_;refine T.region ?_;obtain⟨x29,hx29,ht26⟩:=bS ht26;refine TL.op (OpR.call [7,9] fn150 (walk_stack_row_Row_forth_c hx29) rfl rfl rfl (fun _=>rfl)) rfl (fun w30=>?_);refine TL.nil ?_;obtain rfl:=osi ht26;exact⟨_,Gst.only [0,2,5,6] rfl,(vn w30 0),rfl⟩
 rintro _ ⟨y27,rfl⟩;show T X _ _ _;refine aS ?_;obtain⟨x31,hx31,q14⟩:=bS q14;refine TL.op1 (OpR.call [7,9] fn149 (walk_stack_row_Row_top_c hx31) rfl rfl rfl (fun _=>rfl)) rfl ?_;refine aA rfl rfl ?_;refine aN rfl ?_;refine T.seq ?_;refine T.seq ?_;obtain⟨x32,hx32,q14⟩:=bS q14;obtain⟨q33,hq33,q14⟩:=bS q14;rcases q33 with _|z34
 ·dsimp only at q14;exact (by cases q14)
 dsimp only at q14;obtain⟨x36,hx36,q14⟩:=bS q14;rw[o_tNd_eq hx36] at hq33;obtain⟨x38,hx38,q14⟩:=bS q14;obtain⟨x39,hx39,q14⟩:=bS q14;refine T.drawS drawsX (fun env37=>[.fn (.yield b0) [] [],dN s10.1,.val (.pointer (some ⟨blk y27,x31.toNat*3,none⟩)),.val (.pointer (some ⟨blk y27,x31.toNat*3,none⟩)),.val (.pointer (some ⟨blk y27,x31.toNat*3,none⟩)),.nod [.sl 1 (List.map eNP x36.fKids),.sl 3 (List.map e_row_Row x36.fItems),dN x36.fN],.nod [.sl 1 (List.map eNP x36.fKids),.sl 3 (List.map e_row_Row x36.fItems),dN x36.fN],.nod [.sl 3 (List.map e_row_Row x36.fItems),dN x36.fN],.sl 3 (List.map e_row_Row x36.fItems),.val (.pointer (some ⟨blk y27,x31.toNat*3,none⟩)),.val (.pointer (some ⟨blk y27,x31.toNat*3,none⟩)),.val (.pointer (some ⟨blk y27,x31.toNat*3+2,none⟩)),dN x32.fNext,.nod [.sl 5 (List.map e_cell_Cell x38.fCells),dN x38.fEnd,dT x38.fHidden],.agg [.sl 5 (List.map e_cell_Cell x38.fCells),dN x38.fEnd,dT x38.fHidden],dT true,dT false]) (fun D env37=>[.lp b0 .ready none [14,15] rfA69_0 rfB69_0 [(5,(dP b5)),(3,.nod [dP b4]),(2,.nod [(eOP a0),dT a1,dN a2])] 42,.var b1 [dN a3] 3,.var b2 [dN a4] 3,.var b3 [(eOP a5)] 25,.var b4 [.val v6] 264,(bif D 15 then .var b5 [.val (vn (env37 15) 0)] 122 else .var b5 [.val y8] 122),.row v6 (lB a6) 1 5,.var (blk p2) [.val y27] 228,(bif D 15 then .row (vn (env37 15) 0) (lB x39) 1 5 else .row y8 (lB s10.2.1) 1 5),.row y27 (List.map e_wFr t26) 3 234]) [0,0,0,4,12,28,60,124,252,0,512,1536,3584,8188,16380,32767,65535] [0,2,5,6,8,54] _ (by decide +kernel) (by decide +kernel) (fun _=>rfl) (fun _=>rfl) ?_ (fun _=>rfl) (fun _=>rfl) ?_;rotate_left
 ·intro env37;show T X _ _ _;refine T.condF rfl rfl ?_;refine aK rfl ?_;refine T.region ?_;iterate 3 refine aA rfl rfl ?_
  refine TL.op1 (OpR.rowLoadM (j:=x31) e_wFr 9 hx32 rfl rfl rfl rfl) rfl ?_;iterate 3 refine aA rfl rfl ?_
  refine TL.op0 (OpR.rowStoreM (j:=x31) e_wFr (⟨x32.fN,x32.fFirst,w64 (x32.fNext+1)⟩:wFr) 9 hx32 rfl rfl rfl rfl rfl rfl rfl rfl rfl) ?_;refine aN rfl ?_;refine T.region ?_;iterate 3 refine aA rfl rfl ?_
  refine TL.nil ?_;obtain rfl:=osi q14;exact⟨m12,Nat.lt_succ_self _,_,Gst.only [0,2,5,6] rfl,(vn (env37 15) 0),y27,(w64 (s10.1+1),x39,(t26.set x31.toNat (⟨x32.fN,x32.fFirst,w64 (x32.fNext+1)⟩:wFr))),rfl,i15⟩
 iterate 5 refine aC ?_
 refine oT (.nod [.sl 1 (List.map eNP x36.fKids),.sl 3 (List.map e_row_Row x36.fItems),dN x36.fN]) (fun _ _=>OpR.cast (OpR.rowLoad0M (j:=x31) e_wFr 9 hx32 rfl rfl rfl rfl) (congrArg eOP (osi hq33))) ?_;iterate 6 refine aC ?_
 refine oT ((dN x32.fNext)) (fun _ _=>OpR.rowLoadM (j:=x31) e_wFr 9 hx32 rfl rfl rfl rfl) ?_;refine oT (.nod [.sl 5 (List.map e_cell_Cell x38.fCells),dN x38.fEnd,dT x38.fHidden]) (fun _ _=>OpR.indexM e_row_Row hx38 rfl rfl rfl rfl rfl) ?_;refine aC ?_;refine OpsS.cons' true ?_ (fun D hA env37 x j hj hD=>match j,hj,hD with|0,_,_=>rfl|1,_,_=>rfl|2,_,_=>rfl|3,_,_=>rfl|4,_,_=>rfl|5,_,_=>rfl|6,_,_=>rfl|7,_,_=>rfl|8,_,_=>rfl|9,_,_=>rfl|10,_,_=>rfl|11,_,_=>rfl|12,_,_=>rfl|13,_,_=>rfl|14,_,_=>rfl|15,hj,_=>absurd rfl hj|16,_,_=>rfl|_+17,_,_=>rfl) ?_
 ·intro D env37 hA;exact OpS.yp [(15,false)] ⟨hA.me,trivial⟩ (Want.plain rfl) (OpR.callY [0,4,5,6,8] rfl (grid_Grid_Save_r0_2_c hx39) rfl rfl rfl (fun _=>rfl)) (fun x=>rfl) (fun x=>rfl)
 refine aC ?_;exact trivial
noncomputable def grid_Grid_Save (a0:grid_Grid) (a1:List UInt8):Option (List UInt8):=
 bnd (grid_Grid_Len a0) fun x3=>
 bnd (walk_Range_row_Row a0.fRows 0 x3) fun x4=>
 bnd (walk_Range_row_Row_1_3 a0.fRows.fRoot a0.fTail a0.fEnd x4.1 x4.2.1 x4.2.2 a1) fun x6=>
 some x6
theorem grid_Grid_Save_c {a0:grid_Grid} {a1:List UInt8} {b0:Nat} {v1:Value} {res:(List UInt8)} (h0:grid_Grid_Save a0 a1=some res):CallF X 69 [.agg [(eOP a0.fRows.fRoot),dT a0.fTail,dN a0.fEnd],dP b0] [.var b0 [.val v1] 264,.row v1 (lB a1) 1 5] (fun x=>.sl 1 (lB res)) (fun x=>[.var b0 [.val v1] 264,.row v1 (lB a1) 1 5]):=by
 unfold grid_Grid_Save at h0;refine CallF.mkG (X:=X) rfl Tryz.func69 rfl rfl Tryz.ntmps69 rfl rfl ?_;refine aS ?_;refine TL.op1 (OpR.boxImm rfl rfl) rfl ?_;refine TL.op1 (OpR.boxImm rfl rfl) rfl ?_;refine aA rfl rfl ?_;refine aN rfl ?_;refine aS ?_;refine TL.op (OpR.alloc rfl rfl (fun _=>rfl)) rfl (fun p1=>?_);refine aN rfl ?_;refine T.seq ?_;refine T.seq ?_;obtain⟨x3,hx3,h0⟩:=bS h0;obtain⟨x4,hx4,h0⟩:=bS h0;refine T.drawS drawsX (fun env2=>[.nod [(eOP a0.fRows.fRoot),dT a0.fTail,dN a0.fEnd],.agg [(eOP a0.fRows.fRoot)],.agg [(eOP a0.fRows.fRoot),dT a0.fTail,dN a0.fEnd],dN x3,.fn (.func 146) [] [dP (blk (vn (env2 4) 0)),dP (blk (vn (env2 4) 1)),dP (blk (vn (env2 4) 2))]]) (fun D env2=>[.var b0 [.val v1] 264,.row v1 (lB a1) 1 5,.var (blk p1) [.val (.slice none 0 0)] 122]++(bif D 4 then [.var (blk (vn (env2 4) 0)) [dN x4.1] 3] else [])++(bif D 4 then [.var (blk (vn (env2 4) 1)) [dN x4.2.1] 3] else [])++(bif D 4 then [.var (blk (vn (env2 4) 2)) [(eOP x4.2.2)] 25] else [])) [0,1,0,4,15] [2,3,4,5,13] _ (by decide +kernel) (by decide +kernel) (fun _=>rfl) (fun _=>rfl) ?_ (fun _=>rfl) (fun _=>rfl) ?_;rotate_left
 ·intro env2;show T X _ _ _;refine T.block ?_;obtain⟨x6,hx6,h0⟩:=bS h0;refine T.rangeN (A:=rfA69_0) (B:=rfB69_0) [2,3,5] [3,4,5,0,2,1] (.inl rfl) rfl rfl rfl rfl rfl fn146 rfl rfl (fun l5=>(walk_Range_row_Row_1_3_c hx6)) (fun _=>rfl) (fun w7=>?_);show T X _ _ _;refine aS ?_;refine TL.op1 (OpR.loadPtr 2 rfl rfl rfl rfl) rfl ?_;refine aA rfl rfl ?_;refine aN rfl ?_;refine T.ret ?_;obtain rfl:=osi h0;exact PostG.retP (ks:=[0,1]) (Gst.trans (Gst.only [4] rfl) (Gst.trans (Gst.freezeRow 6 rfl rfl (ReS.cons (Re.base .all) ReS.nil) (ReO.same (ReO.same (ReO.var (ReL.cons (Re.base .all) ReL.nil) (ReO.same (ReO.same (ReO.same (ReO.same ReO.nil)))))))) (Gst.pick [0,1] rfl rfl))) undef (cT rfl ResL.nil) rfl rfl rfl rfl
 iterate 3 refine aC ?_
 refine oT ((dN x3)) (fun _ _=>OpR.call0 fn22 (grid_Grid_Len_c hx3) rfl) ?_;refine OpsS.cons' true ?_ (fun D hA env2 x j hj hD=>match j,hj,hD with|0,_,_=>rfl|1,_,_=>rfl|2,_,_=>rfl|3,_,_=>rfl|4,hj,_=>absurd rfl hj|_+5,_,_=>rfl) ?_
 ·intro D env2 hA;exact OpS.yp [(4,false)] ⟨hA.me,trivial⟩ (Want.plain rfl) (OpR.call [] fn80 (walk_Range_row_Row_c hx4) rfl rfl rfl (fun _=>rfl)) (fun x=>rfl) (fun x=>rfl)
 exact trivial
noncomputable def law16_awake:Option Bool:=
 bnd (grid_Load [49,48,10,57,10,120,10,48,48,55]) fun x2=>
 match x2 with
| .inl x2=>
 if x2.2.1=0 then
 bnd (order_Sort x2.1 [(⟨0,false⟩:order_By)] x2.2.2) fun x6=>
 bnd (if x6.2=0 then
 bnd (grid_Grid_Save x6.1 x2.2.2) fun x10=>
 if x10=[48,48,55,10,57,10,49,48,10,120] then
 bnd (order_Kinds x2.1 0 x2.2.2) fun x12=>
 some (x12==4)
else
 some false
else
 some false:Option Bool) fun t8=>
 some t8
else
 some false
| .inr x2=>
 some false
theorem law16_awake_c {res:Bool} (h0:law16_awake=some res):CallF X 39 [] [] (fun x=>(dT res)) (fun x=>[]):=by
 unfold law16_awake at h0;refine CallF.mkG (X:=X) rfl Tryz.func39 rfl rfl Tryz.ntmps39 rfl rfl ?_;refine aS ?_;refine aA rfl rfl ?_;refine aN rfl ?_;refine aS ?_;refine TL.op (OpR.litRow rfl rfl rfl rfl rfl rfl rfl rfl (fun _=>rfl)) rfl (fun v1=>?_);refine TL.op1 (OpR.markRow 0 rfl rfl rfl rfl rfl rfl rfl rfl) rfl ?_;obtain⟨x2,hx2,h0⟩:=bS h0;rcases x2 with x2|x2;rotate_left
 ·dsimp only at h0;refine TL.op1 (OpR.call0 fn67 (grid_Load_cx2 hx2) rfl) rfl ?_;iterate 4 refine aA rfl rfl ?_
  refine TL.op (OpR.alloc rfl rfl (fun _=>rfl)) rfl (fun p13=>?_);refine TL.op0 (OpR.store 1 rfl rfl rfl rfl rfl rfl rfl rfl) ?_;iterate 2 refine aA rfl rfl ?_
  refine aN rfl ?_;refine T.seq ?_;refine aS ?_;refine aA rfl rfl ?_;refine TL.op1 (OpR.ptrNil (A:=none) rfl rfl rfl) rfl ?_;refine aA rfl rfl ?_;refine TL.off rfl rfl rfl rfl rfl rfl rfl ?_;refine TL.off rfl rfl rfl rfl rfl rfl rfl ?_;refine TL.op1 (OpR.pickT rfl rfl rfl) rfl ?_;refine aN rfl ?_;refine T.condT rfl rfl ?_;refine aS ?_;refine aA rfl rfl ?_;refine aN rfl ?_;refine T.ret ?_;obtain rfl:=osi h0;exact rP [] [0] [] rfl rfl rfl undef (cT rfl ResL.nil) rfl rfl rfl rfl
 dsimp only at h0;refine TL.op (OpR.call [] fn67 (grid_Load_cx1 hx2) rfl rfl rfl (fun _=>rfl)) rfl (fun w3=>?_);iterate 4 refine aA rfl rfl ?_
 refine TL.op (OpR.alloc rfl rfl (fun _=>rfl)) rfl (fun p4=>?_);refine TL.op0 (OpR.store 3 rfl rfl rfl rfl rfl rfl rfl rfl) ?_;iterate 2 refine aA rfl rfl ?_
 refine aN rfl ?_;refine T.seq ?_;refine aS ?_;refine aA rfl rfl ?_;refine TL.op1 (OpR.ptrNil (A:=some ⟨(blk (vn w3 0)),0,none⟩) rfl rfl rfl) rfl ?_;refine aA rfl rfl ?_;refine TL.on rfl rfl rfl rfl rfl ?_;refine aA rfl rfl ?_;refine TL.on rfl rfl rfl rfl rfl ?_;refine aA rfl rfl ?_;refine TL.op1 (OpR.pickF rfl rfl rfl) rfl ?_;refine aN rfl ?_;rcases ite_some h0 with ⟨c5,h0⟩|⟨c5,h0⟩;rotate_left
 ·refine T.condT rfl (not_f (beq_eq_false_iff_ne.2 c5)) ?_;refine aS ?_;refine aA rfl rfl ?_;refine aN rfl ?_;refine T.ret ?_;obtain rfl:=osi h0;exact rP [] [0] [] rfl rfl rfl undef (cT rfl ResL.nil) rfl rfl rfl rfl
 refine T.condF rfl (not_t (beq_iff_eq.2 c5)) ?_;refine aK rfl ?_;refine aS ?_;refine TL.op1 (OpR.loadPtr 3 rfl rfl rfl rfl) rfl ?_;refine aA rfl rfl ?_;refine TL.op1 (OpR.build rfl rfl rfl rfl rfl) rfl ?_;refine TL.op1 (OpR.lit rfl rfl rfl rfl rfl rfl rfl) rfl ?_;obtain⟨x6,hx6,h0⟩:=bS h0;refine TL.op1 (OpR.call [1,2] fn50 (order_Sort_c hx6) rfl rfl rfl (fun _=>rfl)) rfl ?_;iterate 3 refine aA rfl rfl ?_
 refine TL.op (OpR.alloc rfl rfl (fun _=>rfl)) rfl (fun p7=>?_);refine TL.op0 (OpR.store 4 rfl rfl rfl rfl rfl rfl rfl rfl) ?_;refine aA rfl rfl ?_;refine aN rfl ?_;refine T.seq ?_;obtain⟨t8,ht8,h0⟩:=bS h0;refine T.cutC (fun S'=>S'=⟨[(0,(dT t8))],[],42⟩) (fun _ h=>h) ?_ ?_;rotate_left
 ·rintro _ rfl;show T X _ _ _;refine T.ret ?_;obtain rfl:=osi h0;exact rO [] [0] rfl undef (cT rfl ResL.nil) rfl rfl rfl rfl
 refine T.region ?_;iterate 3 refine aA rfl rfl ?_
 rcases ite_some ht8 with ⟨c9,ht8⟩|⟨c9,ht8⟩;rotate_left
 ·refine TL.off rfl rfl rfl rfl (beq_eq_false_iff_ne.2 c9) rfl rfl ?_;refine TL.off rfl rfl rfl rfl (beq_eq_false_iff_ne.2 c9) rfl rfl ?_;refine TL.off rfl rfl rfl rfl (beq_eq_false_iff_ne.2 c9) rfl rfl ?_;refine TL.off rfl rfl rfl rfl (beq_eq_false_iff_ne.2 c9) rfl rfl ?_;refine TL.off rfl rfl rfl rfl (beq_eq_false_iff_ne.2 c9) rfl rfl ?_;refine TL.op1 (OpR.pickF rfl (beq_eq_false_iff_ne.2 c9) rfl) rfl ?_;refine aA rfl rfl ?_;refine TL.off rfl rfl rfl rfl rfl rfl rfl ?_;refine TL.off rfl rfl rfl rfl rfl rfl rfl ?_;refine TL.off rfl rfl rfl rfl rfl rfl rfl ?_;refine TL.off rfl rfl rfl rfl rfl rfl rfl ?_;refine TL.op1 (OpR.pickF rfl rfl rfl) rfl ?_;refine aA rfl rfl ?_;refine TL.nil ?_;obtain rfl:=osi ht8;exact⟨_,gP [0] [] rfl rfl rfl,rfl⟩
 refine TL.on rfl rfl rfl rfl (beq_iff_eq.2 c9) ?_;refine TL.op1 (OpR.loadPtr 4 rfl rfl rfl rfl) rfl ?_;refine TL.on rfl rfl rfl rfl (beq_iff_eq.2 c9) ?_;refine aA rfl rfl ?_;refine TL.on rfl rfl rfl rfl (beq_iff_eq.2 c9) ?_;obtain⟨x10,hx10,ht8⟩:=bS ht8;refine TL.op1 (OpR.call [1,2] fn69 (grid_Grid_Save_c hx10) rfl rfl rfl (fun _=>rfl)) rfl ?_;refine TL.on rfl rfl rfl rfl (beq_iff_eq.2 c9) ?_;refine TL.op1 (OpR.toStr (bs:=x10) rfl rfl rfl rfl rfl rfl rfl) rfl ?_;refine TL.on rfl rfl rfl rfl (beq_iff_eq.2 c9) ?_;refine TL.op1 (OpR.cast (OpR.pure rfl) (boolE (strEq _ _))) rfl ?_;refine TL.op1 (OpR.pickT rfl (beq_iff_eq.2 c9) rfl) rfl ?_;refine aA rfl rfl ?_;rcases ite_some ht8 with ⟨c11,ht8⟩|⟨c11,ht8⟩;rotate_left
 ·refine TL.off rfl rfl rfl rfl (beq_eq_false_iff_ne.2 c11) rfl rfl ?_;refine TL.off rfl rfl rfl rfl (beq_eq_false_iff_ne.2 c11) rfl rfl ?_;refine TL.off rfl rfl rfl rfl (beq_eq_false_iff_ne.2 c11) rfl rfl ?_;refine TL.off rfl rfl rfl rfl (beq_eq_false_iff_ne.2 c11) rfl rfl ?_;refine TL.op1 (OpR.pickF rfl (beq_eq_false_iff_ne.2 c11) rfl) rfl ?_;refine aA rfl rfl ?_;refine TL.nil ?_;obtain rfl:=osi ht8;exact⟨_,gP [0] [] rfl rfl rfl,rfl⟩
 refine TL.on rfl rfl rfl rfl (beq_iff_eq.2 c11) ?_;refine TL.op1 (OpR.loadPtr 3 rfl rfl rfl rfl) rfl ?_;refine TL.on rfl rfl rfl rfl (beq_iff_eq.2 c11) ?_;refine aA rfl rfl ?_;refine TL.on rfl rfl rfl rfl (beq_iff_eq.2 c11) ?_;obtain⟨x12,hx12,ht8⟩:=bS ht8;refine TL.op1 (OpR.call [1,2] fn42 (order_Kinds_c hx12) rfl rfl rfl (fun _=>rfl)) rfl ?_;refine TL.on rfl rfl rfl rfl (beq_iff_eq.2 c11) ?_;refine aA rfl rfl ?_;refine TL.op1 (OpR.pickT rfl (beq_iff_eq.2 c11) rfl) rfl ?_;refine aA rfl rfl ?_;refine TL.nil ?_;obtain rfl:=osi ht8;exact⟨_,gP [0] [] rfl rfl rfl,rfl⟩
noncomputable def law16_OrderKinds (a0:List UInt8) (a1:Int) (a2:UInt8):Option Bool:=
 bnd (law16_Hide a0 a1) fun x1=>
 match x1 with
| .inl x1=>
 if x1.2.2.1=true then
 bnd (order_Kinds x1.1 ((ub (rem (a2.toNat:Int) 39)).toNat:Int) x1.2.2.2) fun x6=>
 bnd (order_Sort x1.1 [(⟨((ub (rem (a2.toNat:Int) 39)).toNat:Int),true⟩:order_By)] x1.2.2.2) fun x7=>
 bnd (bnd (ref16_Kinds x1.2.1 ((ub (rem (a2.toNat:Int) 39)).toNat:Int)) fun x10=>
 if x6=x10 then
 bnd (grid_Grid_Visible x1.1) fun x12=>
 if x6≤(x12.length:Int) then
 if x7.2=0 then
 bnd (order_Kinds x7.1 ((ub (rem (a2.toNat:Int) 39)).toNat:Int) x1.2.2.2) fun x15=>
 if x15=x6 then
 bnd (law16_awake) fun x17=>
 some x17
else
 some false
else
 some false
else
 some false
else
 some false:Option Bool) fun t9=>
 some t9
else
 bnd (law16_awake) fun x18=>
 some x18
| .inr x1=>
 some false
theorem law16_OrderKinds_c {a0:List UInt8} {a1:Int} {a2:UInt8} {res:Bool} (h0:law16_OrderKinds a0 a1 a2=some res):CallF X 10 [.val (.string (bs a0)),.val (.int .u64 a1),.val (.int .u8 (a2.toNat:Int))] [] (fun x=>(dT res)) (fun x=>[]):=by
 unfold law16_OrderKinds at h0;refine CallF.mkG (X:=X) rfl Tryz.func10 rfl rfl Tryz.ntmps10 rfl rfl ?_;refine aS ?_;refine aA rfl rfl ?_;refine aN rfl ?_;refine aS ?_;iterate 2 refine aA rfl rfl ?_
 obtain⟨x1,hx1,h0⟩:=bS h0;rcases x1 with x1|x1;rotate_left
 ·dsimp only at h0;refine TL.op1 (OpR.call0 fn49 (law16_Hide_cx2 hx1) rfl) rfl ?_;iterate 5 refine aA rfl rfl ?_
  refine TL.op (OpR.alloc rfl rfl (fun _=>rfl)) rfl (fun p19=>?_);refine TL.op (OpR.alloc rfl rfl (fun _=>rfl)) rfl (fun p20=>?_);refine TL.op0 (OpR.store 0 rfl rfl rfl rfl rfl rfl rfl rfl) ?_;refine aA rfl rfl ?_;refine TL.op0 (OpR.store 1 rfl rfl rfl rfl rfl rfl rfl rfl) ?_;refine aA rfl rfl ?_;refine aN rfl ?_;refine T.seq ?_;refine aS ?_;iterate 2 refine aA rfl rfl ?_
  refine aN rfl ?_;refine T.condT rfl rfl ?_;refine aS ?_;refine aA rfl rfl ?_;refine TL.op1 (OpR.ptrNe (A:=none) rfl rfl rfl) rfl ?_;refine aA rfl rfl ?_;refine TL.off rfl rfl rfl rfl rfl rfl rfl ?_;refine TL.op1 (OpR.pickF rfl rfl rfl) rfl ?_;refine aA rfl rfl ?_;refine aN rfl ?_;refine T.ret ?_;obtain rfl:=osi h0;exact rP [] [6] [] rfl rfl rfl undef (cT rfl ResL.nil) rfl rfl rfl rfl
 dsimp only at h0;refine TL.op (OpR.call [] fn49 (law16_Hide_cx1 hx1) rfl rfl rfl (fun _=>rfl)) rfl (fun w2=>?_);iterate 5 refine aA rfl rfl ?_
 refine TL.op (OpR.alloc rfl rfl (fun _=>rfl)) rfl (fun p3=>?_);refine TL.op (OpR.alloc rfl rfl (fun _=>rfl)) rfl (fun p4=>?_);refine TL.op0 (OpR.store 2 rfl rfl rfl rfl rfl rfl rfl rfl) ?_;refine aA rfl rfl ?_;refine TL.op0 (OpR.store 3 rfl rfl rfl rfl rfl rfl rfl rfl) ?_;refine aA rfl rfl ?_;refine aN rfl ?_;refine T.seq ?_;refine aS ?_;iterate 2 refine aA rfl rfl ?_
 refine aN rfl ?_;rcases ite_some h0 with ⟨c5,h0⟩|⟨c5,h0⟩;rotate_left
 ·refine T.condT rfl (not_f (eq_false_of_ne_true c5)) ?_;refine aS ?_;refine aA rfl rfl ?_;refine TL.op1 (OpR.ptrNe (A:=some ⟨(blk (vn w2 0)),0,none⟩) rfl rfl rfl) rfl ?_;refine aA rfl rfl ?_;refine TL.on rfl rfl rfl rfl rfl ?_;obtain⟨x18,hx18,h0⟩:=bS h0;refine TL.op1 (OpR.call0 fn39 (law16_awake_c hx18) rfl) rfl ?_;refine TL.op1 (OpR.pickT rfl rfl rfl) rfl ?_;refine aA rfl rfl ?_;refine aN rfl ?_;refine T.ret ?_;obtain rfl:=osi h0;exact rP [] [6] [] rfl rfl rfl undef (cT rfl ResL.nil) rfl rfl rfl rfl
 refine T.condF rfl (not_t (c5)) ?_;refine aK rfl ?_;refine aS ?_;refine aA rfl rfl ?_;refine TL.op1 (OpR.cast (OpR.pure rfl) (intE (u8_rem _ _))) rfl ?_;refine TL.op1 (OpR.cast (OpR.pure rfl) (intE (w64_u8 _))) rfl ?_;refine aA rfl rfl ?_;refine aN rfl ?_;refine aS ?_;refine TL.op1 (OpR.loadPtr 2 rfl rfl rfl rfl) rfl ?_;iterate 2 refine aA rfl rfl ?_
 obtain⟨x6,hx6,h0⟩:=bS h0;refine TL.op1 (OpR.call [0,1] fn42 (order_Kinds_c hx6) rfl rfl rfl (fun _=>rfl)) rfl ?_;refine aA rfl rfl ?_;refine aN rfl ?_;refine aS ?_;refine TL.op1 (OpR.loadPtr 2 rfl rfl rfl rfl) rfl ?_;iterate 2 refine aA rfl rfl ?_
 refine TL.op1 (OpR.build rfl rfl rfl rfl rfl) rfl ?_;refine TL.op1 (OpR.lit rfl rfl rfl rfl rfl rfl rfl) rfl ?_;obtain⟨x7,hx7,h0⟩:=bS h0;refine TL.op1 (OpR.call [0,1] fn50 (order_Sort_c hx7) rfl rfl rfl (fun _=>rfl)) rfl ?_;iterate 3 refine aA rfl rfl ?_
 refine TL.op (OpR.alloc rfl rfl (fun _=>rfl)) rfl (fun p8=>?_);refine TL.op0 (OpR.store 4 rfl rfl rfl rfl rfl rfl rfl rfl) ?_;refine aA rfl rfl ?_;refine aN rfl ?_;refine T.seq ?_;obtain⟨t9,ht9,h0⟩:=bS h0;refine T.cutC (fun S'=>S'=⟨[(6,(dT t9))],[],73⟩) (fun _ h=>h) ?_ ?_;rotate_left
 ·rintro _ rfl;show T X _ _ _;refine T.ret ?_;obtain rfl:=osi h0;exact rO [] [6] rfl undef (cT rfl ResL.nil) rfl rfl rfl rfl
 refine T.region ?_;refine aA rfl rfl ?_;refine TL.op1 (OpR.loadPtr 3 rfl rfl rfl rfl) rfl ?_;refine aA rfl rfl ?_;obtain⟨x10,hx10,ht9⟩:=bS ht9;refine TL.op1 (OpR.call0 fn43 (ref16_Kinds_c hx10) rfl) rfl ?_;iterate 2 refine aA rfl rfl ?_
 rcases ite_some ht9 with ⟨c11,ht9⟩|⟨c11,ht9⟩;rotate_left
 ·refine TL.off rfl rfl rfl rfl (beq_eq_false_iff_ne.2 c11) rfl rfl ?_;refine TL.off rfl rfl rfl rfl (beq_eq_false_iff_ne.2 c11) rfl rfl ?_;refine TL.off rfl rfl rfl rfl (beq_eq_false_iff_ne.2 c11) rfl rfl ?_;refine TL.off rfl rfl rfl rfl (beq_eq_false_iff_ne.2 c11) rfl rfl ?_;refine TL.off rfl rfl rfl rfl (beq_eq_false_iff_ne.2 c11) rfl rfl ?_;refine TL.op1 (OpR.pickF rfl (beq_eq_false_iff_ne.2 c11) rfl) rfl ?_;refine aA rfl rfl ?_;refine TL.off rfl rfl rfl rfl rfl rfl rfl ?_;refine TL.off rfl rfl rfl rfl rfl rfl rfl ?_;refine TL.op1 (OpR.pickF rfl rfl rfl) rfl ?_;refine aA rfl rfl ?_;refine TL.off rfl rfl rfl rfl rfl rfl rfl ?_;refine TL.off rfl rfl rfl rfl rfl rfl rfl ?_;refine TL.off rfl rfl rfl rfl rfl rfl rfl ?_;refine TL.off rfl rfl rfl rfl rfl rfl rfl ?_;refine TL.off rfl rfl rfl rfl rfl rfl rfl ?_;refine TL.off rfl rfl rfl rfl rfl rfl rfl ?_;refine TL.op1 (OpR.pickF rfl rfl rfl) rfl ?_;refine aA rfl rfl ?_;refine TL.off rfl rfl rfl rfl rfl rfl rfl ?_;refine TL.op1 (OpR.pickF rfl rfl rfl) rfl ?_;refine aA rfl rfl ?_;refine TL.nil ?_;obtain rfl:=osi ht9;exact⟨_,gP [6] [] rfl rfl rfl,rfl⟩
 refine TL.on rfl rfl rfl rfl (beq_iff_eq.2 c11) ?_;refine aA rfl rfl ?_;refine TL.on rfl rfl rfl rfl (beq_iff_eq.2 c11) ?_;refine TL.op1 (OpR.loadPtr 2 rfl rfl rfl rfl) rfl ?_;refine TL.on rfl rfl rfl rfl (beq_iff_eq.2 c11) ?_;obtain⟨x12,hx12,ht9⟩:=bS ht9;refine TL.op1 (OpR.call0 fn51 (grid_Grid_Visible_c hx12) rfl) rfl ?_;refine TL.on rfl rfl rfl rfl (beq_iff_eq.2 c11) ?_;refine TL.op1 (OpR.cast (OpR.pure rfl) (intE (lenM _ _))) rfl ?_;refine TL.on rfl rfl rfl rfl (beq_iff_eq.2 c11) ?_;refine aA rfl rfl ?_;refine TL.op1 (OpR.pickT rfl (beq_iff_eq.2 c11) rfl) rfl ?_;refine aA rfl rfl ?_;rcases ite_some ht9 with ⟨c13,ht9⟩|⟨c13,ht9⟩;rotate_left
 ·refine TL.off rfl rfl rfl rfl (eF c13) rfl rfl ?_;refine TL.off rfl rfl rfl rfl (eF c13) rfl rfl ?_;refine TL.op1 (OpR.pickF rfl (eF c13) rfl) rfl ?_;refine aA rfl rfl ?_;refine TL.off rfl rfl rfl rfl rfl rfl rfl ?_;refine TL.off rfl rfl rfl rfl rfl rfl rfl ?_;refine TL.off rfl rfl rfl rfl rfl rfl rfl ?_;refine TL.off rfl rfl rfl rfl rfl rfl rfl ?_;refine TL.off rfl rfl rfl rfl rfl rfl rfl ?_;refine TL.off rfl rfl rfl rfl rfl rfl rfl ?_;refine TL.op1 (OpR.pickF rfl rfl rfl) rfl ?_;refine aA rfl rfl ?_;refine TL.off rfl rfl rfl rfl rfl rfl rfl ?_;refine TL.op1 (OpR.pickF rfl rfl rfl) rfl ?_;refine aA rfl rfl ?_;refine TL.nil ?_;obtain rfl:=osi ht9;exact⟨_,gP [6] [] rfl rfl rfl,rfl⟩
 refine TL.on rfl rfl rfl rfl (eT c13) ?_;refine aA rfl rfl ?_;refine TL.on rfl rfl rfl rfl (eT c13) ?_;refine aA rfl rfl ?_;refine TL.op1 (OpR.pickT rfl (eT c13) rfl) rfl ?_;refine aA rfl rfl ?_;rcases ite_some ht9 with ⟨c14,ht9⟩|⟨c14,ht9⟩;rotate_left
 ·refine TL.off rfl rfl rfl rfl (beq_eq_false_iff_ne.2 c14) rfl rfl ?_;refine TL.off rfl rfl rfl rfl (beq_eq_false_iff_ne.2 c14) rfl rfl ?_;refine TL.off rfl rfl rfl rfl (beq_eq_false_iff_ne.2 c14) rfl rfl ?_;refine TL.off rfl rfl rfl rfl (beq_eq_false_iff_ne.2 c14) rfl rfl ?_;refine TL.off rfl rfl rfl rfl (beq_eq_false_iff_ne.2 c14) rfl rfl ?_;refine TL.off rfl rfl rfl rfl (beq_eq_false_iff_ne.2 c14) rfl rfl ?_;refine TL.op1 (OpR.pickF rfl (beq_eq_false_iff_ne.2 c14) rfl) rfl ?_;refine aA rfl rfl ?_;refine TL.off rfl rfl rfl rfl rfl rfl rfl ?_;refine TL.op1 (OpR.pickF rfl rfl rfl) rfl ?_;refine aA rfl rfl ?_;refine TL.nil ?_;obtain rfl:=osi ht9;exact⟨_,gP [6] [] rfl rfl rfl,rfl⟩
 refine TL.on rfl rfl rfl rfl (beq_iff_eq.2 c14) ?_;refine TL.op1 (OpR.loadPtr 4 rfl rfl rfl rfl) rfl ?_;refine TL.on rfl rfl rfl rfl (beq_iff_eq.2 c14) ?_;refine aA rfl rfl ?_;refine TL.on rfl rfl rfl rfl (beq_iff_eq.2 c14) ?_;refine aA rfl rfl ?_;refine TL.on rfl rfl rfl rfl (beq_iff_eq.2 c14) ?_;obtain⟨x15,hx15,ht9⟩:=bS ht9;refine TL.op1 (OpR.call [0,1] fn42 (order_Kinds_c hx15) rfl rfl rfl (fun _=>rfl)) rfl ?_;refine TL.on rfl rfl rfl rfl (beq_iff_eq.2 c14) ?_;refine aA rfl rfl ?_;refine TL.on rfl rfl rfl rfl (beq_iff_eq.2 c14) ?_;refine aA rfl rfl ?_;refine TL.op1 (OpR.pickT rfl (beq_iff_eq.2 c14) rfl) rfl ?_;refine aA rfl rfl ?_;rcases ite_some ht9 with ⟨c16,ht9⟩|⟨c16,ht9⟩;rotate_left
 ·refine TL.off rfl rfl rfl rfl (beq_eq_false_iff_ne.2 c16) rfl rfl ?_;refine TL.op1 (OpR.pickF rfl (beq_eq_false_iff_ne.2 c16) rfl) rfl ?_;refine aA rfl rfl ?_;refine TL.nil ?_;obtain rfl:=osi ht9;exact⟨_,gP [6] [] rfl rfl rfl,rfl⟩
 refine TL.on rfl rfl rfl rfl (beq_iff_eq.2 c16) ?_;obtain⟨x17,hx17,ht9⟩:=bS ht9;refine TL.op1 (OpR.call0 fn39 (law16_awake_c hx17) rfl) rfl ?_;refine TL.op1 (OpR.pickT rfl (beq_iff_eq.2 c16) rfl) rfl ?_;refine aA rfl rfl ?_;refine TL.nil ?_;obtain rfl:=osi ht9;exact⟨_,gP [6] [] rfl rfl rfl,rfl⟩
end Go.Proofs.YtpmhiiemklhbhaaGreat.S
