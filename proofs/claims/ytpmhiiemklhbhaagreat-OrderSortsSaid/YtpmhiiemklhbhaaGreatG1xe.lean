import Derived.Test.YtpmhiiemklhbhaaGreatG1xd
import Derived.Test.YtpmhiiemklhbhaaGreatG1xc
import Derived.Test.YtpmhiiemklhbhaaGreatG1xa
import Derived.Test.YtpmhiiemklhbhaaGreatG1xb
set_option maxHeartbeats 4000000
set_option linter.unusedVariables false
set_option linter.unusedSimpArgs false
set_option maxRecDepth 20000
namespace Go.Proofs.YtpmhiiemklhbhaaGreat.S
open Go Go.Sm
attribute [local irreducible] T TL OpR CallT wc loop
noncomputable def wK.l1 (a0:List ref07_Cell) (a1:List ref07_Cell) (s4:Int):Option (Lp Int (Ex Unit Bool)):=
 if s4<(a0.length:Int) then
 bnd (idx a0 s4) fun x14=>
 bnd (idx a1 s4) fun x15=>
 if x14=x15 then
 some (Lp.next (w64 (s4+1)))
else
 some (Lp.done (Ex.ret false))
else
 some (Lp.done (Ex.brk ()))
noncomputable def wK (a0:List ref07_Cell) (a1:List ref07_Cell):Option Bool:=
 if (a0.length:Int)=(a1.length:Int) then
 bnd (loop (wK.l1 a0 a1) 0:Option (Ex Unit Bool)) fun t2=>match t2 with
| .brk u3=>
 some true
| .ret u3=>some u3
else
 some false
theorem ref07_Same_c {a0:List ref07_Cell} {a1:List ref07_Cell} {res:Bool} (h0:wK a0 a1=some res):zn X 30 [.sl 3 (List.map zB a0),.sl 3 (List.map zB a1)] [] (fun x=>(dT res)) (fun x=>[]):=by
 unfold wK at h0;refine zg (X:=X) Z Tryz.func30 Z Z Tryz.ntmps30 Z Z ?_;refine aS ?_;refine aA Z Z ?_;refine aN Z ?_;refine T.seq ?_;refine aS ?_;refine aA Z Z ?_;refine z6 (zk (OpR.pure Z) (xh (xX _ _))) Z ?_;refine aA Z Z ?_;refine z6 (zk (OpR.pure Z) (xh (xX _ _))) Z ?_;refine aA Z Z ?_;refine aN Z ?_;rcases z9 h0 with ⟨c1,h0⟩|⟨c1,h0⟩;rotate_left
 ·refine zi Z (yd (beq_eq_false_iff_ne.2 c1)) ?_;refine aS ?_;refine aA Z Z ?_;refine aN Z ?_;refine T.ret ?_;obtain rfl:=osi h0;exact rO [] [4] Z undef (cT Z ResL.nil) Z Z Z Z
 refine zh Z (zS (beq_iff_eq.2 c1)) ?_;refine aK Z ?_;refine T.seq ?_;refine aS ?_;refine aA Z Z ?_;refine z6 (zk (OpR.pure Z) (xh (xX _ _))) Z ?_;refine aA Z Z ?_;refine aN Z ?_;obtain⟨t2,ht2,h0⟩:=bS h0;refine zz (fun S'=>∃ u3,t2=Ex.brk u3∧S'=⟨[(4,(dT false))],[],26⟩) (fun _ h=>h) ?_ ?_;rotate_left
 ·rintro _ ⟨u3,rfl,rfl⟩;show T X _ _ _;refine aS ?_;refine aA Z Z ?_;refine aN Z ?_;refine T.ret ?_;obtain rfl:=osi h0;exact rO [] [4] Z undef (cT Z ResL.nil) Z Z Z Z
 refine T.block ?_;obtain⟨n5,n10⟩:=zw ht2;refine T.loop (fun n S'=>∃ S'',Gst S' S''∧∃ s4:Int,S''=⟨[(13,(dN s4)),(12,(dN (a0.length:Int))),(4,(dT false)),(1,.sl 3 (List.map zB a1)),(0,.sl 3 (List.map zB a0))],[],26⟩∧wc (wK.l1 a0 a1) n s4=some t2) n5 ?_ ?_
 ·exact⟨_,Gst.only [0,1,4,12,13] Z,0,Z,n10⟩
 rintro n5 _ ⟨_,g,s4,rfl,i9⟩;refine T.ghost g ?_;obtain⟨m6,q7,rfl,q8,i9⟩:=zx i9;unfold wK.l1 at q8;refine aS ?_;refine aA Z Z ?_;refine aN Z ?_;refine T.seq ?_;rcases z9 q8 with ⟨c12,q8⟩|⟨c12,q8⟩;rotate_left
 ·refine zh Z (eF c12) ?_;refine T.exit ?_;obtain rfl:=osi q8;obtain rfl:_=_:=i9;exact⟨_,Gst.only [4] Z,_,Z,Z⟩
 refine zi Z (eT c12) ?_;refine aK Z ?_;refine T.seq ?_;refine T.block ?_;refine aS ?_;iterate 2 refine aA rfl rfl ?_
 refine aN Z ?_;refine T.seq ?_;obtain⟨x14,hx14,q8⟩:=bS q8;obtain⟨x15,hx15,q8⟩:=bS q8;refine yo zW [.sl 3 (List.map zB a0),dN s4,.nod [.val (.string (bs x14.fS)),.val (.string (bs x14.fRaw)),dT x14.fKept],.agg [.val (.string (bs x14.fS)),.val (.string (bs x14.fRaw)),dT x14.fKept],.sl 3 (List.map zB a1),dN s4,.nod [.val (.string (bs x15.fS)),.val (.string (bs x15.fRaw)),dT x15.fKept],.agg [.val (.string (bs x15.fS)),.val (.string (bs x15.fRaw)),dT x15.fKept],dT (!(x14==x15))] [0,1,4,12,13,24] (by decide +kernel) Z ?_ Z ?_
 ·iterate 2 refine aB rfl rfl rfl ?_
  refine zq.yes (Want.plain Z) Z (zp zB hx14 Z Z Z Z Z) ?_;iterate 3 refine aB rfl rfl rfl ?_
  refine zq.yes (Want.plain Z) Z (zp zB hx15 Z Z Z Z Z) ?_;refine aB Z Z Z ?_;refine zq.yes (Want.plain Z) Z (zk (OpR.neStruct Z Z Z Z Z (by kernel_rfl) (by kernel_rfl)) (boolE (congrArg (fun b=>!b) (beq_ref07_Cell x14 x15)))) ?_;exact zq.nil
 show T X _ _ _;rcases z9 q8 with ⟨c16,q8⟩|⟨c16,q8⟩
 ·refine zh Z (zS (beq_iff_eq.2 c16)) ?_;refine aK Z ?_;refine T.region ?_;iterate 2 refine aA rfl rfl ?_
  refine TL.nil ?_;obtain rfl:=osi q8;exact⟨m6,Nat.lt_succ_self _,_,Gst.only [0,1,4,12,13] Z,w64 (s4+1),Z,i9⟩
 refine zi Z (yd (beq_eq_false_iff_ne.2 c16)) ?_;refine aS ?_;refine aA Z Z ?_;refine aN Z ?_;refine T.ret ?_;obtain rfl:=osi q8;obtain rfl:_=_:=i9;obtain rfl:=osi h0;exact rO [] [4] Z undef (cT Z ResL.nil) Z Z Z Z
noncomputable def qD (a0:ref08_Row) (a1:ref08_Row):Option Bool:=
 bnd (if a0.fEnd=a1.fEnd then
 if (a0.fHidden==a1.fHidden)=true then
 bnd (wK a0.fCells a1.fCells) fun x4=>
 some x4
else
 some false
else
 some false:Option Bool) fun t1=>
 some t1
theorem ref08_Same_c {a0:ref08_Row} {a1:ref08_Row} {res:Bool} (h0:qD a0 a1=some res):zn X 65 [.agg [.sl 3 (List.map zB a0.fCells),dN a0.fEnd,dT a0.fHidden],.agg [.sl 3 (List.map zB a1.fCells),dN a1.fEnd,dT a1.fHidden]] [] (fun x=>(dT res)) (fun x=>[]):=by
 unfold qD at h0;refine zg (X:=X) Z Tryz.func65 Z Z Tryz.ntmps65 Z Z ?_;refine aS ?_;refine z6 (zD Z Z) Z ?_;refine z6 (zD Z Z) Z ?_;refine aA Z Z ?_;refine aN Z ?_;refine T.seq ?_;obtain⟨t1,ht1,h0⟩:=bS h0;refine zz (fun S'=>S'=⟨[(4,(dT t1))],[],24⟩) (fun _ h=>h) ?_ ?_;rotate_left
 ·rintro _ rfl;show T X _ _ _;refine T.ret ?_;obtain rfl:=osi h0;exact rO [] [4] Z undef (cT Z ResL.nil) Z Z Z Z
 refine T.region ?_;iterate 6 refine aA rfl rfl ?_
 rcases z9 ht1 with ⟨c2,ht1⟩|⟨c2,ht1⟩;rotate_left
 ·refine TL.off Z Z Z Z (beq_eq_false_iff_ne.2 c2) Z Z ?_;refine TL.off Z Z Z Z (beq_eq_false_iff_ne.2 c2) Z Z ?_;refine TL.off Z Z Z Z (beq_eq_false_iff_ne.2 c2) Z Z ?_;refine TL.off Z Z Z Z (beq_eq_false_iff_ne.2 c2) Z Z ?_;refine TL.off Z Z Z Z (beq_eq_false_iff_ne.2 c2) Z Z ?_;refine z6 (zu Z (beq_eq_false_iff_ne.2 c2) Z) Z ?_;refine aA Z Z ?_;refine TL.off Z Z Z Z Z Z Z ?_;refine TL.off Z Z Z Z Z Z Z ?_;refine TL.off Z Z Z Z Z Z Z ?_;refine TL.off Z Z Z Z Z Z Z ?_;refine TL.off Z Z Z Z Z Z Z ?_;refine z6 (zu Z Z Z) Z ?_;refine aA Z Z ?_;refine TL.nil ?_;obtain rfl:=osi ht1;exact⟨_,Gst.only [4] Z,Z⟩
 refine TL.on Z Z Z Z (beq_iff_eq.2 c2) ?_;refine aA Z Z ?_;refine TL.on Z Z Z Z (beq_iff_eq.2 c2) ?_;refine aA Z Z ?_;refine TL.on Z Z Z Z (beq_iff_eq.2 c2) ?_;refine aA Z Z ?_;refine TL.on Z Z Z Z (beq_iff_eq.2 c2) ?_;refine aA Z Z ?_;refine TL.on Z Z Z Z (beq_iff_eq.2 c2) ?_;refine z6 (uk Z Z Z Z) Z ?_;refine z6 (zt Z (beq_iff_eq.2 c2) Z) Z ?_;refine aA Z Z ?_;rcases z9 ht1 with ⟨c3,ht1⟩|⟨c3,ht1⟩;rotate_left
 ·refine TL.off Z Z Z Z (eN c3) Z Z ?_;refine TL.off Z Z Z Z (eN c3) Z Z ?_;refine TL.off Z Z Z Z (eN c3) Z Z ?_;refine TL.off Z Z Z Z (eN c3) Z Z ?_;refine TL.off Z Z Z Z (eN c3) Z Z ?_;refine z6 (zu Z (eN c3) Z) Z ?_;refine aA Z Z ?_;refine TL.nil ?_;obtain rfl:=osi ht1;exact⟨_,Gst.only [4] Z,Z⟩
 refine TL.on Z Z Z Z (c3) ?_;refine aA Z Z ?_;refine TL.on Z Z Z Z (c3) ?_;refine aA Z Z ?_;refine TL.on Z Z Z Z (c3) ?_;refine aA Z Z ?_;refine TL.on Z Z Z Z (c3) ?_;refine aA Z Z ?_;refine TL.on Z Z Z Z (c3) ?_;obtain⟨x4,hx4,ht1⟩:=bS ht1;refine z6 (zf fn30 (ref07_Same_c hx4) Z) Z ?_;refine z6 (zt Z (c3) Z) Z ?_;refine aA Z Z ?_;refine TL.nil ?_;obtain rfl:=osi ht1;exact⟨_,Gst.only [4] Z,Z⟩
noncomputable def wI.l1 (a0:ref11_Grid) (a1:ref11_Grid) (s7:Int):Option (Lp Int (Ex Unit Bool)):=
 if s7<(a0.fRows.length:Int) then
 bnd (idx a0.fRows s7) fun x17=>
 bnd (idx a1.fRows s7) fun x18=>
 bnd (qD x17 x18) fun x19=>
 if x19=true then
 some (Lp.next (w64 (s7+1)))
else
 some (Lp.done (Ex.ret false))
else
 some (Lp.done (Ex.brk ()))
noncomputable def wI (a0:ref11_Grid) (a1:ref11_Grid):Option Bool:=
 bnd (if (a0.fRows.length:Int)=(a1.fRows.length:Int) then
 if (a0.fTail==a1.fTail)=true then
 some (!(a0.fEnd==a1.fEnd))
else
 some true
else
 some true:Option Bool) fun t1=>
 if t1=true then
 some false
else
 bnd (loop (wI.l1 a0 a1) 0:Option (Ex Unit Bool)) fun t5=>match t5 with
| .brk u6=>
 some true
| .ret u6=>some u6
theorem qn {a0:ref11_Grid} {a1:ref11_Grid} {res:Bool} (h0:wI a0 a1=some res):zn X 18 [.agg [.sl 3 (List.map zb a0.fRows),dT a0.fTail,dN a0.fEnd],.agg [.sl 3 (List.map zb a1.fRows),dT a1.fTail,dN a1.fEnd]] [] (fun x=>(dT res)) (fun x=>[]):=by
 unfold wI at h0;refine zg (X:=X) Z Tryz.func18 Z Z Tryz.ntmps18 Z Z ?_;refine aS ?_;refine z6 (zD Z Z) Z ?_;refine z6 (zD Z Z) Z ?_;refine aA Z Z ?_;refine aN Z ?_;refine T.seq ?_;refine T.seq ?_;obtain⟨t1,ht1,h0⟩:=bS h0;refine zz (fun S'=>S'=⟨[(26,(dT t1)),(4,(dT false)),(3,.nod [.sl 3 (List.map zb a1.fRows),dT a1.fTail,dN a1.fEnd]),(2,.nod [.sl 3 (List.map zb a0.fRows),dT a0.fTail,dN a0.fEnd])],[],46⟩) (fun _ h=>h) ?_ ?_
 ·refine T.region ?_;iterate 2 refine aA rfl rfl ?_
  refine z6 (zk (OpR.pure Z) (xh (xX _ _))) Z ?_;iterate 2 refine aA rfl rfl ?_
  refine z6 (zk (OpR.pure Z) (xh (xX _ _))) Z ?_;iterate 2 refine aA rfl rfl ?_
  rcases z9 ht1 with ⟨c2,ht1⟩|⟨c2,ht1⟩;rotate_left
  ·refine TL.off Z Z Z Z (yd (beq_eq_false_iff_ne.2 c2)) Z Z ?_;refine TL.off Z Z Z Z (yd (beq_eq_false_iff_ne.2 c2)) Z Z ?_;refine TL.off Z Z Z Z (yd (beq_eq_false_iff_ne.2 c2)) Z Z ?_;refine TL.off Z Z Z Z (yd (beq_eq_false_iff_ne.2 c2)) Z Z ?_;refine TL.off Z Z Z Z (yd (beq_eq_false_iff_ne.2 c2)) Z Z ?_;refine z6 (zt Z (yd (beq_eq_false_iff_ne.2 c2)) Z) Z ?_;refine aA Z Z ?_;refine TL.off Z Z Z Z Z Z Z ?_;refine TL.off Z Z Z Z Z Z Z ?_;refine TL.off Z Z Z Z Z Z Z ?_;refine TL.off Z Z Z Z Z Z Z ?_;refine TL.off Z Z Z Z Z Z Z ?_;refine z6 (zt Z Z Z) Z ?_;refine TL.nil ?_;obtain rfl:=osi ht1;exact⟨_,Gst.only [2,3,4,26] Z,Z⟩
  refine TL.on Z Z Z Z (zS (beq_iff_eq.2 c2)) ?_;refine aA Z Z ?_;refine TL.on Z Z Z Z (zS (beq_iff_eq.2 c2)) ?_;refine aA Z Z ?_;refine TL.on Z Z Z Z (zS (beq_iff_eq.2 c2)) ?_;refine aA Z Z ?_;refine TL.on Z Z Z Z (zS (beq_iff_eq.2 c2)) ?_;refine aA Z Z ?_;refine TL.on Z Z Z Z (zS (beq_iff_eq.2 c2)) ?_;refine z6 (OpR.neBool Z Z Z Z) Z ?_;refine z6 (zu Z (zS (beq_iff_eq.2 c2)) Z) Z ?_;refine aA Z Z ?_;rcases z9 ht1 with ⟨c3,ht1⟩|⟨c3,ht1⟩;rotate_left
  ·refine TL.off Z Z Z Z (yd (eN c3)) Z Z ?_;refine TL.off Z Z Z Z (yd (eN c3)) Z Z ?_;refine TL.off Z Z Z Z (yd (eN c3)) Z Z ?_;refine TL.off Z Z Z Z (yd (eN c3)) Z Z ?_;refine TL.off Z Z Z Z (yd (eN c3)) Z Z ?_;refine z6 (zt Z (yd (eN c3)) Z) Z ?_;refine TL.nil ?_;obtain rfl:=osi ht1;exact⟨_,Gst.only [2,3,4,26] Z,Z⟩
  refine TL.on Z Z Z Z (zS (c3)) ?_;refine aA Z Z ?_;refine TL.on Z Z Z Z (zS (c3)) ?_;refine aA Z Z ?_;refine TL.on Z Z Z Z (zS (c3)) ?_;refine aA Z Z ?_;refine TL.on Z Z Z Z (zS (c3)) ?_;refine aA Z Z ?_;refine TL.on Z Z Z Z (zS (c3)) ?_;refine aA Z Z ?_;refine z6 (zu Z (zS (c3)) Z) Z ?_;refine TL.nil ?_;obtain rfl:=osi ht1;exact⟨_,Gst.only [2,3,4,26] Z,Z⟩
 rintro _ rfl;show T X _ _ _;rcases z9 h0 with ⟨c4,h0⟩|⟨c4,h0⟩
 ·refine zi Z (c4) ?_;refine aS ?_;refine aA Z Z ?_;refine aN Z ?_;refine T.ret ?_;obtain rfl:=osi h0;exact rO [] [4] Z undef (cT Z ResL.nil) Z Z Z Z
 refine zh Z (eN c4) ?_;refine aK Z ?_;refine T.seq ?_;refine aS ?_;iterate 2 refine aA rfl rfl ?_
 refine z6 (zk (OpR.pure Z) (xh (xX _ _))) Z ?_;refine aA Z Z ?_;refine aN Z ?_;obtain⟨t5,ht5,h0⟩:=bS h0;refine zz (fun S'=>∃ u6,t5=Ex.brk u6∧S'=⟨[(4,(dT false))],[],46⟩) (fun _ h=>h) ?_ ?_;rotate_left
 ·rintro _ ⟨u6,rfl,rfl⟩;show T X _ _ _;refine aS ?_;refine aA Z Z ?_;refine aN Z ?_;refine T.ret ?_;obtain rfl:=osi h0;exact rO [] [4] Z undef (cT Z ResL.nil) Z Z Z Z
 refine T.block ?_;obtain⟨n8,n13⟩:=zw ht5;refine T.loop (fun n S'=>∃ S'',Gst S' S''∧∃ s7:Int,S''=⟨[(30,(dN s7)),(29,(dN (a0.fRows.length:Int))),(4,(dT false)),(3,.nod [.sl 3 (List.map zb a1.fRows),dT a1.fTail,dN a1.fEnd]),(2,.nod [.sl 3 (List.map zb a0.fRows),dT a0.fTail,dN a0.fEnd])],[],46⟩∧wc (wI.l1 a0 a1) n s7=some t5) n8 ?_ ?_
 ·exact⟨_,Gst.only [2,3,4,29,30] Z,0,Z,n13⟩
 rintro n8 _ ⟨_,g,s7,rfl,i12⟩;refine T.ghost g ?_;obtain⟨m9,q10,rfl,q11,i12⟩:=zx i12;unfold wI.l1 at q11;refine aS ?_;refine aA Z Z ?_;refine aN Z ?_;refine T.seq ?_;rcases z9 q11 with ⟨c15,q11⟩|⟨c15,q11⟩;rotate_left
 ·refine zh Z (eF c15) ?_;refine T.exit ?_;obtain rfl:=osi q11;obtain rfl:_=_:=i12;exact⟨_,Gst.only [4] Z,_,Z,Z⟩
 refine zi Z (eT c15) ?_;refine aK Z ?_;refine T.seq ?_;refine T.block ?_;refine aS ?_;iterate 2 refine aA rfl rfl ?_
 refine aN Z ?_;refine T.seq ?_;obtain⟨x17,hx17,q11⟩:=bS q11;obtain⟨x18,hx18,q11⟩:=bS q11;obtain⟨x19,hx19,q11⟩:=bS q11;refine yo zW [.nod [.sl 3 (List.map zb a0.fRows),dT a0.fTail,dN a0.fEnd],.sl 3 (List.map zb a0.fRows),dN s7,.nod [.sl 3 (List.map zB x17.fCells),dN x17.fEnd,dT x17.fHidden],.agg [.sl 3 (List.map zB x17.fCells),dN x17.fEnd,dT x17.fHidden],.nod [.sl 3 (List.map zb a1.fRows),dT a1.fTail,dN a1.fEnd],.sl 3 (List.map zb a1.fRows),dN s7,.nod [.sl 3 (List.map zB x18.fCells),dN x18.fEnd,dT x18.fHidden],.agg [.sl 3 (List.map zB x18.fCells),dN x18.fEnd,dT x18.fHidden],dT x19,dT (!x19)] [2,3,4,29,30,44] (by decide +kernel) Z ?_ Z ?_;rotate_left
 ·show T X _ _ _;rcases z9 q11 with ⟨c20,q11⟩|⟨c20,q11⟩
  ·refine zh Z (zS (c20)) ?_;refine aK Z ?_;refine T.region ?_;iterate 2 refine aA rfl rfl ?_
   refine TL.nil ?_;obtain rfl:=osi q11;exact⟨m9,Nat.lt_succ_self _,_,Gst.only [2,3,4,29,30] Z,w64 (s7+1),Z,i12⟩
  refine zi Z (yd (eN c20)) ?_;refine aS ?_;refine aA Z Z ?_;refine aN Z ?_;refine T.ret ?_;obtain rfl:=osi q11;obtain rfl:_=_:=i12;obtain rfl:=osi h0;exact rO [] [4] Z undef (cT Z ResL.nil) Z Z Z Z
 iterate 3 refine aB rfl rfl rfl ?_
 refine zq.yes (Want.plain Z) Z (zp zb hx17 Z Z Z Z Z) ?_;iterate 4 refine aB rfl rfl rfl ?_
 refine zq.yes (Want.plain Z) Z (zp zb hx18 Z Z Z Z Z) ?_;refine aB Z Z Z ?_;refine zq.yes (Want.plain Z) Z (zf fn65 (ref08_Same_c hx19) Z) ?_;refine aB Z Z Z ?_;exact zq.nil
noncomputable def yK.l1 (a0:List row_Row) (a1:List order_By) (a2:List UInt8) (s4:Int × Int × (List (List row_Row))):Option (Lp (Int × Int × (List (List row_Row))) (List (List row_Row))):=
 if s4.2.1<(a0.length:Int) then
 bnd (bnd (if (w64 (s4.2.1+1))<(a0.length:Int) then
 bnd (idx a0 s4.2.1) fun x18=>
 bnd (idx a0 (w64 (s4.2.1+1))) fun x19=>
 bnd (yi x18 x19 a1 a2) fun x20=>
 some (decide (x20≤0))
else
 some false:Option Bool) fun t15=>
 if t15=true then
 some (s4.1,s4.2.2)
else
 bnd (cut a0 s4.1 (w64 (s4.2.1+1))) fun x22=>
 bnd (yh x22) fun x23=>
 bnd (app 24 s4.2.2 [x23]) fun x25=>
 some (w64 (s4.2.1+1),x25):Option (Int × (List (List row_Row)))) fun t13=>
 some (Lp.next (t13.1,w64 (s4.2.1+1),t13.2))
else
 some (Lp.done s4.2.2)
noncomputable def yK (a0:List row_Row) (a1:List order_By) (a2:List UInt8):Option (List (List row_Row)):=
 bnd (loop (yK.l1 a0 a1 a2) (0,0,[]):Option (List (List row_Row))) fun t1=>
 some t1
theorem tZ {a0:List row_Row} {a1:List order_By} {a2:List UInt8} {b0:Nat} {b1:Nat} {b2:Nat} {v3:Value} {res:(List (List row_Row))} (h0:yK a0 a1 a2=some res):zn X 127 [.sl 3 (List.map z8 a0),.fn (.func 170) [] [dP b0,dP b1]] [.var b0 [.sl 2 (List.map ze a1)] 104,.var b1 [dP b2] 28,.var b2 [.val v3] 264,.row v3 (lB a2) 1 5] (fun x=>.sl 1 (List.map xP res)) (fun x=>[.var b0 [.sl 2 (List.map ze a1)] 104,.var b1 [dP b2] 28,.var b2 [.val v3] 264,.row v3 (lB a2) 1 5]):=by
 unfold yK at h0;refine zg (X:=X) Z Tryz.func127 Z Z Tryz.ntmps127 Z Z ?_;refine aS ?_;refine aA Z Z ?_;refine aN Z ?_;refine aS ?_;refine aA Z Z ?_;refine aN Z ?_;refine aS ?_;refine aA Z Z ?_;refine aN Z ?_;refine T.seq ?_;refine aS ?_;refine aA Z Z ?_;refine z6 (zk (OpR.pure Z) (xh (xX _ _))) Z ?_;refine aA Z Z ?_;refine aN Z ?_;obtain⟨t1,ht1,h0⟩:=bS h0;refine zz (fun S'=>∃ y2:Value,S'=⟨[(5,.val y2),(4,.val (.slice none 0 0))],[.var b0 [.sl 2 (List.map ze a1)] 104,.var b1 [dP b2] 28,.var b2 [.val v3] 264,.row v3 (lB a2) 1 5,.row y2 (List.map xP t1) 1 163],45⟩) (fun _ h=>h) ?_ ?_;rotate_left
 ·rintro _ ⟨y2,rfl⟩;show T X _ _ _;refine aS ?_;iterate 2 refine aA rfl rfl ?_
  refine aN Z ?_;refine T.ret ?_;obtain rfl:=osi h0;exact zC (ks:=[0,1,2,3]) (Gst.trans (Gst.only [4] Z) (Gst.trans (zA 4 Z Z (ReS.cons (Re.base .all) ReS.nil) (ReO.same (ReO.same (ReO.same (ReO.same (ReO.same ReO.nil)))))) (Gst.pick [0,1,2,3] Z Z))) undef (cT Z ResL.nil) Z Z Z Z
 refine T.block ?_;obtain⟨n5,n10⟩:=zw ht1;refine T.loop (fun n S'=>∃ S'',Gst S' S''∧∃ y3:Value,∃ s4:Int × Int × (List (List row_Row)),S''=⟨[(10,(dN s4.2.1)),(9,(dN (a0.length:Int))),(6,(dN s4.1)),(5,.val y3),(4,.val (.slice none 0 0)),(1,.fn (.func 170) [] [dP b0,dP b1]),(0,.sl 3 (List.map z8 a0))],[.var b0 [.sl 2 (List.map ze a1)] 104,.var b1 [dP b2] 28,.var b2 [.val v3] 264,.row v3 (lB a2) 1 5,.row y3 (List.map xP s4.2.2) 1 163],45⟩∧wc (yK.l1 a0 a1 a2) n s4=some t1) n5 ?_ ?_
 ·exact⟨_,Gst.trans (Gst.only [0,1,4,5,6,9,10] Z) (ya (ow:=[.var b0 [.sl 2 (List.map ze a1)] 104,.var b1 [dP b2] 28,.var b2 [.val v3] 264,.row v3 (lB a2) 1 5]) 1 163 Z),(.slice none 0 0),(0,0,[]),Z,n10⟩
 rintro n5 _ ⟨_,g,y3,s4,rfl,i9⟩;refine T.ghost g ?_;obtain⟨m6,q7,rfl,q8,i9⟩:=zx i9;unfold yK.l1 at q8;refine aS ?_;refine aA Z Z ?_;refine aN Z ?_;refine T.seq ?_;rcases z9 q8 with ⟨c12,q8⟩|⟨c12,q8⟩;rotate_left
 ·refine zh Z (eF c12) ?_;refine T.exit ?_;obtain rfl:=osi q8;obtain rfl:_=_:=i9;exact⟨_,Gst.only [4,5] Z,y3,Z⟩
 refine zi Z (eT c12) ?_;refine aK Z ?_;refine T.seq ?_;obtain⟨t13,ht13,q8⟩:=bS q8;refine zz (fun S'=>∃ y14:Value,S'=⟨[(10,(dN s4.2.1)),(9,(dN (a0.length:Int))),(6,(dN t13.1)),(5,.val y14),(4,.val (.slice none 0 0)),(1,.fn (.func 170) [] [dP b0,dP b1]),(0,.sl 3 (List.map z8 a0))],[.var b0 [.sl 2 (List.map ze a1)] 104,.var b1 [dP b2] 28,.var b2 [.val v3] 264,.row v3 (lB a2) 1 5,.row y14 (List.map xP t13.2) 1 163],45⟩) (fun _ h=>h) ?_ ?_;rotate_left
 ·rintro _ ⟨y14,rfl⟩;show T X _ _ _;refine T.region ?_;iterate 2 refine aA rfl rfl ?_
  refine TL.nil ?_;obtain rfl:=osi q8;exact⟨m6,Nat.lt_succ_self _,_,Gst.only [0,1,4,5,6,9,10] Z,y14,(t13.1,w64 (s4.2.1+1),t13.2),Z,i9⟩
 refine T.block ?_;refine aS ?_;iterate 2 refine aA rfl rfl ?_
 refine aN Z ?_;refine T.seq ?_;refine T.seq ?_;obtain⟨t15,ht15,ht13⟩:=bS ht13;refine zz (fun S'=>S'=⟨[(31,(dT t15)),(10,(dN s4.2.1)),(9,(dN (a0.length:Int))),(7,(dN s4.2.1)),(6,(dN s4.1)),(5,.val y3),(4,.val (.slice none 0 0)),(1,.fn (.func 170) [] [dP b0,dP b1]),(0,.sl 3 (List.map z8 a0))],[.var b0 [.sl 2 (List.map ze a1)] 104,.var b1 [dP b2] 28,.var b2 [.val v3] 264,.row v3 (lB a2) 1 5,.row y3 (List.map xP s4.2.2) 1 163],45⟩) (fun _ h=>h) ?_ ?_;rotate_left
 ·rintro _ rfl;show T X _ _ _;rcases z9 ht13 with ⟨c21,ht13⟩|⟨c21,ht13⟩
  ·refine zi Z (c21) ?_;refine T.exit ?_;obtain rfl:=osi ht13;exact⟨_,Gst.only [0,1,4,5,6,9,10] Z,y3,Z⟩
  refine zh Z (eN c21) ?_;refine aK Z ?_;refine aS ?_;iterate 5 refine aA rfl rfl ?_
  obtain⟨x22,hx22,ht13⟩:=bS ht13;refine z6 (wO (sz:=3) z8 hx22 Z Z Z Z (BdM.some Z) (BdM.some Z) Z) Z ?_;obtain⟨x23,hx23,ht13⟩:=bS ht13;refine TL.op (OpR.call [] fn191 (vz hx23) Z Z Z (fun _=>Z)) Z (fun w24=>?_);refine TL.ghost (zA 5 Z Z (ReS.cons (Re.base .all) (ReS.refl _)) (ReO.same (ReO.same (ReO.same (ReO.same (ReO.same (ReO.same ReO.nil))))))) ?_;refine z6 (yC Z Z Z Z Z Z Z) Z ?_;obtain⟨x25,hx25,ht13⟩:=bS ht13;refine TL.op (zH (m:=[x23]) xP 4 hx25 Z Z Z Z Z Z Z Z Z (fun _=>Z)) Z (fun v26=>?_);refine aA Z Z ?_;refine aN Z ?_;refine T.region ?_;iterate 3 refine aA rfl rfl ?_
  refine TL.nil ?_;obtain rfl:=osi ht13;exact⟨_,gP [0,1,4,5,6,9,10] [0,1,2,3,4] Z Z Z,v26,Z⟩
 rcases z9 ht15 with ⟨c17,ht15⟩|⟨c17,ht15⟩;rotate_left
 ·refine yo zW [dN s4.2.1,dN (w64 (s4.2.1+1)),.sl 3 (List.map z8 a0),dN (a0.length:Int),dT (decide ((w64 (s4.2.1+1))<(a0.length:Int))),dT (decide ((w64 (s4.2.1+1))<(a0.length:Int))),.tup [],.tup [],.tup [],.tup [],.tup [],.tup [],.tup [],.tup [],.tup [],.tup [],.tup [],.tup [],dT false] [0,1,4,5,6,7,9,10,31] (by decide +kernel) Z ?_ Z ?_;rotate_left
  ·obtain rfl:=osi ht15;exact⟨_,Gst.only [0,1,4,5,6,7,9,10,31] Z,Z⟩
  iterate 3 refine aB rfl rfl rfl ?_
  refine zq.yes (Want.plain Z) Z (zk (OpR.pure Z) (xh (xX _ _))) ?_;iterate 2 refine aB rfl rfl rfl ?_
  refine zq.no (Want.bool rfl rfl rfl rfl (by rw[(eF c17)]; rfl)) rfl ?_;refine zq.no (Want.bool rfl rfl rfl rfl (by rw[(eF c17)]; rfl)) rfl ?_;refine zq.no (Want.bool rfl rfl rfl rfl (by rw[(eF c17)]; rfl)) rfl ?_;refine zq.no (Want.bool rfl rfl rfl rfl (by rw[(eF c17)]; rfl)) rfl ?_;refine zq.no (Want.bool rfl rfl rfl rfl (by rw[(eF c17)]; rfl)) rfl ?_;refine zq.no (Want.bool rfl rfl rfl rfl (by rw[(eF c17)]; rfl)) rfl ?_;refine zq.no (Want.bool rfl rfl rfl rfl (by rw[(eF c17)]; rfl)) rfl ?_;refine zq.no (Want.bool rfl rfl rfl rfl (by rw[(eF c17)]; rfl)) rfl ?_;refine zq.no (Want.bool rfl rfl rfl rfl (by rw[(eF c17)]; rfl)) rfl ?_;refine zq.no (Want.bool rfl rfl rfl rfl (by rw[(eF c17)]; rfl)) rfl ?_;refine zq.no (Want.bool rfl rfl rfl rfl (by rw[(eF c17)]; rfl)) rfl ?_;refine zq.no (Want.bool rfl rfl rfl rfl (by rw[(eF c17)]; rfl)) rfl ?_;refine zq.yes (Want.plain Z) Z (zu Z (eF c17) Z) ?_;exact zq.nil
 obtain⟨x18,hx18,ht15⟩:=bS ht15;obtain⟨x19,hx19,ht15⟩:=bS ht15;obtain⟨x20,hx20,ht15⟩:=bS ht15;refine yo zW [dN s4.2.1,dN (w64 (s4.2.1+1)),.sl 3 (List.map z8 a0),dN (a0.length:Int),dT (decide ((w64 (s4.2.1+1))<(a0.length:Int))),dT (decide ((w64 (s4.2.1+1))<(a0.length:Int))),.fn (.func 170) [] [dP b0,dP b1],.sl 3 (List.map z8 a0),dN s4.2.1,.nod [.sl 5 (List.map zo x18.fCells),dN x18.fEnd,dT x18.fHidden],.agg [.sl 5 (List.map zo x18.fCells),dN x18.fEnd,dT x18.fHidden],.sl 3 (List.map z8 a0),dN s4.2.1,dN (w64 (s4.2.1+1)),.nod [.sl 5 (List.map zo x19.fCells),dN x19.fEnd,dT x19.fHidden],.agg [.sl 5 (List.map zo x19.fCells),dN x19.fEnd,dT x19.fHidden],dN x20,dT (decide (x20≤0)),dT (decide (x20≤0))] [0,1,4,5,6,7,9,10,31] (by decide +kernel) Z ?_ Z ?_;rotate_left
 ·obtain rfl:=osi ht15;exact⟨_,Gst.only [0,1,4,5,6,7,9,10,31] Z,Z⟩
 iterate 3 refine aB rfl rfl rfl ?_
 refine zq.yes (Want.plain Z) Z (zk (OpR.pure Z) (xh (xX _ _))) ?_;iterate 2 refine aB rfl rfl rfl ?_
 refine zq.yes (Want.bool rfl rfl rfl rfl (by rw[(eT c17)]; rfl)) rfl (OpR.pure rfl) ?_;refine zq.yes (Want.bool rfl rfl rfl rfl (by rw[(eT c17)]; rfl)) rfl (OpR.pure rfl) ?_;refine zq.yes (Want.bool rfl rfl rfl rfl (by rw[(eT c17)]; rfl)) rfl (OpR.pure rfl) ?_;refine zq.yes (Want.bool rfl rfl rfl rfl (by rw[(eT c17)]; rfl)) rfl (zp z8 hx18 rfl rfl rfl rfl rfl) ?_;refine zq.yes (Want.bool rfl rfl rfl rfl (by rw[(eT c17)]; rfl)) rfl (OpR.pure rfl) ?_;refine zq.yes (Want.bool rfl rfl rfl rfl (by rw[(eT c17)]; rfl)) rfl (OpR.pure rfl) ?_;refine zq.yes (Want.bool rfl rfl rfl rfl (by rw[(eT c17)]; rfl)) rfl (OpR.pure rfl) ?_;refine zq.yes (Want.bool rfl rfl rfl rfl (by rw[(eT c17)]; rfl)) rfl (OpR.pure rfl) ?_;refine zq.yes (Want.bool rfl rfl rfl rfl (by rw[(eT c17)]; rfl)) rfl (zp z8 hx19 rfl rfl rfl rfl rfl) ?_;refine zq.yes (Want.bool rfl rfl rfl rfl (by rw[(eT c17)]; rfl)) rfl (OpR.pure rfl) ?_;refine zq.yes (Want.bool rfl rfl rfl rfl (by rw[(eT c17)]; rfl)) rfl (ux [0,1,2,3] rfl fn170 (vR hx20) rfl rfl rfl (fun _=>rfl)) ?_;refine zq.yes (Want.bool rfl rfl rfl rfl (by rw[(eT c17)]; rfl)) rfl (OpR.pure rfl) ?_;refine zq.yes (Want.plain Z) Z (zt Z (eT c17) Z) ?_;exact zq.nil
noncomputable def tO (a0:grid_Grid) (a1:List order_By) (a2:List UInt8):Option Bool:=
 bnd (yX a0) fun x1=>
 bnd (bnd (vY a1) fun x3=>
 if x3=true then
 bnd (vk a1 a2) fun x5=>
 bnd (yK x1.1 x5 a2) fun x7=>
 some (decide ((x7.length:Int)≤1))
else
 some false:Option Bool) fun t2=>
 some t2
theorem qX {a0:grid_Grid} {a1:List order_By} {a2:List UInt8} {b0:Nat} {v1:Value} {res:Bool} (h0:tO a0 a1 a2=some res):zn X 61 [.agg [(eOP a0.fRows.fRoot),dT a0.fTail,dN a0.fEnd],dP b0,.sl 2 (List.map ze a1)] [.var b0 [.val v1] 264,.row v1 (lB a2) 1 5] (fun x=>(dT res)) (fun x=>[.var b0 [.val v1] 264,.row v1 (lB a2) 1 5]):=by
 unfold tO at h0;refine zg (X:=X) Z Tryz.func61 Z Z Tryz.ntmps61 Z Z ?_;refine aS ?_;refine z6 (zD Z Z) Z ?_;refine aA Z Z ?_;refine aN Z ?_;refine aS ?_;refine aA Z Z ?_;obtain⟨x1,hx1,h0⟩:=bS h0;refine z6 (zf fn104 (sG hx1) Z) Z ?_;iterate 5 refine aA rfl rfl ?_
 refine aN Z ?_;refine T.seq ?_;obtain⟨t2,ht2,h0⟩:=bS h0;refine zz (fun S'=>S'=⟨[(6,(dT t2))],[.var b0 [.val v1] 264,.row v1 (lB a2) 1 5],25⟩) (fun _ h=>h) ?_ ?_;rotate_left
 ·rintro _ rfl;show T X _ _ _;refine T.ret ?_;obtain rfl:=osi h0;exact rO [0,1] [6] Z undef (cT Z ResL.nil) Z Z Z Z
 refine T.region ?_;refine aA Z Z ?_;obtain⟨x3,hx3,ht2⟩:=bS ht2;refine z6 (zf fn56 (wF hx3) Z) Z ?_;refine aA Z Z ?_;rcases z9 ht2 with ⟨c4,ht2⟩|⟨c4,ht2⟩;rotate_left
 ·refine TL.off Z Z Z Z (eN c4) Z Z ?_;refine TL.off Z Z Z Z (eN c4) Z Z ?_;refine TL.off Z Z Z Z (eN c4) Z Z ?_;refine TL.off Z Z Z Z (eN c4) Z Z ?_;refine TL.off Z Z Z Z (eN c4) Z Z ?_;refine TL.off Z Z Z Z (eN c4) Z Z ?_;refine TL.off Z Z Z Z (eN c4) Z Z ?_;refine z6 (zu Z (eN c4) Z) Z ?_;refine aA Z Z ?_;refine TL.nil ?_;obtain rfl:=osi ht2;exact⟨_,Gst.only [6] Z,Z⟩
 refine TL.on Z Z Z Z (c4) ?_;refine aA Z Z ?_;refine TL.on Z Z Z Z (c4) ?_;refine aA Z Z ?_;refine TL.on Z Z Z Z (c4) ?_;refine aA Z Z ?_;refine TL.on Z Z Z Z (c4) ?_;obtain⟨x5,hx5,ht2⟩:=bS ht2;refine TL.op (OpR.call [0,1] fn105 (tV hx5) Z Z Z (fun _=>Z)) Z (fun w6=>?_);refine TL.on Z Z Z Z (c4) ?_;obtain⟨x7,hx7,ht2⟩:=bS ht2;refine z6 (OpR.call [2,3,0,1] fn127 (tZ hx7) Z Z Z (fun _=>Z)) Z ?_;refine TL.on Z Z Z Z (c4) ?_;refine z6 (zk (OpR.pure Z) (xh (xX _ _))) Z ?_;refine TL.on Z Z Z Z (c4) ?_;refine aA Z Z ?_;refine z6 (zt Z (c4) Z) Z ?_;refine aA Z Z ?_;refine TL.nil ?_;obtain rfl:=osi ht2;exact⟨_,gP [6] [0,1] Z Z Z,Z⟩
noncomputable def xn.l1 (a0:ref11_Grid) (a1:List ref16_By) (x1:(List Int)) (s4:Int):Option (Lp Int (Ex Unit Bool)):=
 if s4<(x1.length:Int) then
 bnd (idx x1 (w64 (s4-1))) fun x14=>
 bnd (idx a0.fRows x14) fun x15=>
 bnd (idx x1 s4) fun x16=>
 bnd (idx a0.fRows x16) fun x17=>
 bnd (xf x15 x17 a1) fun x18=>
 if x18>0 then
 some (Lp.done (Ex.ret false))
else
 some (Lp.next (w64 (s4+1)))
else
 some (Lp.done (Ex.brk ()))
noncomputable def xn (a0:ref11_Grid) (a1:List ref16_By):Option Bool:=
 bnd (yW a0) fun x1=>
 bnd (loop (xn.l1 a0 a1 x1) 1:Option (Ex Unit Bool)) fun t2=>match t2 with
| .brk u3=>
 bnd (xB a1) fun x20=>
 some x20
| .ret u3=>some u3
theorem qW {a0:ref11_Grid} {a1:List ref16_By} {res:Bool} (h0:xn a0 a1=some res):zn X 62 [.agg [.sl 3 (List.map zb a0.fRows),dT a0.fTail,dN a0.fEnd],.sl 2 (List.map zP a1)] [] (fun x=>(dT res)) (fun x=>[]):=by
 unfold xn at h0;refine zg (X:=X) Z Tryz.func62 Z Z Tryz.ntmps62 Z Z ?_;refine aS ?_;refine z6 (zD Z Z) Z ?_;refine aA Z Z ?_;refine aN Z ?_;refine aS ?_;refine aA Z Z ?_;obtain⟨x1,hx1,h0⟩:=bS h0;refine z6 (zf fn63 (sF hx1) Z) Z ?_;refine aA Z Z ?_;refine aN Z ?_;refine T.seq ?_;refine aS ?_;refine aA Z Z ?_;refine aN Z ?_;obtain⟨t2,ht2,h0⟩:=bS h0;refine zz (fun S'=>∃ u3,t2=Ex.brk u3∧S'=⟨[(4,(dT false)),(1,.sl 2 (List.map zP a1))],[],37⟩) (fun _ h=>h) ?_ ?_;rotate_left
 ·rintro _ ⟨u3,rfl,rfl⟩;show T X _ _ _;refine aS ?_;refine aA Z Z ?_;obtain⟨x20,hx20,h0⟩:=bS h0;refine z6 (zf fn57 (wE hx20) Z) Z ?_;refine aA Z Z ?_;refine aN Z ?_;refine T.ret ?_;obtain rfl:=osi h0;exact rO [] [4] Z undef (cT Z ResL.nil) Z Z Z Z
 refine T.block ?_;obtain⟨n5,n10⟩:=zw ht2;refine T.loop (fun n S'=>∃ S'',Gst S' S''∧∃ s4:Int,S''=⟨[(6,(dN s4)),(5,.sl 1 (List.map (eI .i64) x1)),(4,(dT false)),(2,.nod [.sl 3 (List.map zb a0.fRows),dT a0.fTail,dN a0.fEnd]),(1,.sl 2 (List.map zP a1))],[],37⟩∧wc (xn.l1 a0 a1 x1) n s4=some t2) n5 ?_ ?_
 ·exact⟨_,Gst.only [1,2,4,5,6] Z,1,Z,n10⟩
 rintro n5 _ ⟨_,g,s4,rfl,i9⟩;refine T.ghost g ?_;obtain⟨m6,q7,rfl,q8,i9⟩:=zx i9;unfold xn.l1 at q8;refine T.seq ?_;refine aS ?_;iterate 2 refine aA rfl rfl ?_
 refine z6 (zk (OpR.pure Z) (xh (xX _ _))) Z ?_;refine aA Z Z ?_;refine aN Z ?_;rcases z9 q8 with ⟨c12,q8⟩|⟨c12,q8⟩;rotate_left
 ·refine zh Z (eF c12) ?_;refine T.exit ?_;obtain rfl:=osi q8;obtain rfl:_=_:=i9;exact⟨_,Gst.only [1,4] Z,_,Z,Z⟩
 refine zi Z (eT c12) ?_;refine aK Z ?_;refine T.seq ?_;refine T.block ?_;refine T.seq ?_;obtain⟨x14,hx14,q8⟩:=bS q8;obtain⟨x15,hx15,q8⟩:=bS q8;obtain⟨x16,hx16,q8⟩:=bS q8;obtain⟨x17,hx17,q8⟩:=bS q8;obtain⟨x18,hx18,q8⟩:=bS q8;refine yo zW [.nod [.sl 3 (List.map zb a0.fRows),dT a0.fTail,dN a0.fEnd],.sl 3 (List.map zb a0.fRows),.sl 1 (List.map (eI .i64) x1),dN s4,dN (w64 (s4-1)),.nod [dN x14],dN x14,.nod [.sl 3 (List.map zB x15.fCells),dN x15.fEnd,dT x15.fHidden],.agg [.sl 3 (List.map zB x15.fCells),dN x15.fEnd,dT x15.fHidden],.nod [.sl 3 (List.map zb a0.fRows),dT a0.fTail,dN a0.fEnd],.sl 3 (List.map zb a0.fRows),.sl 1 (List.map (eI .i64) x1),dN s4,.nod [dN x16],dN x16,.nod [.sl 3 (List.map zB x17.fCells),dN x17.fEnd,dT x17.fHidden],.agg [.sl 3 (List.map zB x17.fCells),dN x17.fEnd,dT x17.fHidden],.sl 2 (List.map zP a1),dN x18,dT (decide (x18>0))] [1,2,4,5,6,34] (by decide +kernel) Z ?_ Z ?_;rotate_left
 ·show T X _ _ _;rcases z9 q8 with ⟨c19,q8⟩|⟨c19,q8⟩;rotate_left
  ·refine zh Z (eF c19) ?_;refine aK Z ?_;refine T.region ?_;iterate 3 refine aA rfl rfl ?_
   refine TL.nil ?_;obtain rfl:=osi q8;exact⟨m6,Nat.lt_succ_self _,_,Gst.only [1,2,4,5,6] Z,w64 (s4+1),Z,i9⟩
  refine zi Z (eT c19) ?_;refine aS ?_;refine aA Z Z ?_;refine aN Z ?_;refine T.ret ?_;obtain rfl:=osi q8;obtain rfl:_=_:=i9;obtain rfl:=osi h0;exact rO [] [4] Z undef (cT Z ResL.nil) Z Z Z Z
 iterate 5 refine aB rfl rfl rfl ?_
 refine zq.yes (Want.plain Z) Z (zp (eI .i64) hx14 Z Z Z Z Z) ?_;refine aB Z Z Z ?_;refine zq.yes (Want.plain Z) Z (zp zb hx15 Z Z Z Z Z) ?_;iterate 5 refine aB rfl rfl rfl ?_
 refine zq.yes (Want.plain Z) Z (zp (eI .i64) hx16 Z Z Z Z Z) ?_;refine aB Z Z Z ?_;refine zq.yes (Want.plain Z) Z (zp zb hx17 Z Z Z Z Z) ?_;iterate 2 refine aB rfl rfl rfl ?_
 refine zq.yes (Want.plain Z) Z (zf fn66 (qp hx18) Z) ?_;refine aB Z Z Z ?_;exact zq.nil
noncomputable def sA (a0:UInt8):Option Int:=
 if (a0.toNat:Int)=44 then
 some 1
else
 if (a0.toNat:Int)=34 then
 some 2
else
 if (a0.toNat:Int)=13 then
 some 3
else
 if (a0.toNat:Int)=10 then
 some 4
else
 some 0
theorem rF {a0:UInt8} {res:Int} (h0:sA a0=some res):zn X 260 [.val (.int .u8 (a0.toNat:Int))] [] (fun x=>(dN res)) (fun x=>[]):=by
 unfold sA at h0;refine zg (X:=X) Z Tryz.func260 Z Z Tryz.ntmps260 Z Z ?_;refine aS ?_;refine aA Z Z ?_;refine aN Z ?_;refine T.seq ?_;refine aS ?_;refine aA Z Z ?_;refine aN Z ?_;refine T.block ?_;refine aS ?_;iterate 2 refine aA rfl rfl ?_
 refine aN Z ?_;rcases z9 h0 with ⟨c1,h0⟩|⟨c1,h0⟩
 ·refine zi Z (beq_iff_eq.2 c1) ?_;refine aS ?_;refine aA Z Z ?_;refine aN Z ?_;refine T.ret ?_;obtain rfl:=osi h0;exact rO [] [2] Z undef (cT Z ResL.nil) Z Z Z Z
 refine zh Z (beq_eq_false_iff_ne.2 c1) ?_;refine aS ?_;iterate 2 refine aA rfl rfl ?_
 refine aN Z ?_;rcases z9 h0 with ⟨c2,h0⟩|⟨c2,h0⟩
 ·refine zi Z (beq_iff_eq.2 c2) ?_;refine aS ?_;refine aA Z Z ?_;refine aN Z ?_;refine T.ret ?_;obtain rfl:=osi h0;exact rO [] [2] Z undef (cT Z ResL.nil) Z Z Z Z
 refine zh Z (beq_eq_false_iff_ne.2 c2) ?_;refine aS ?_;iterate 2 refine aA rfl rfl ?_
 refine aN Z ?_;rcases z9 h0 with ⟨c3,h0⟩|⟨c3,h0⟩
 ·refine zi Z (beq_iff_eq.2 c3) ?_;refine aS ?_;refine aA Z Z ?_;refine aN Z ?_;refine T.ret ?_;obtain rfl:=osi h0;exact rO [] [2] Z undef (cT Z ResL.nil) Z Z Z Z
 refine zh Z (beq_eq_false_iff_ne.2 c3) ?_;refine aS ?_;iterate 2 refine aA rfl rfl ?_
 refine aN Z ?_;rcases z9 h0 with ⟨c4,h0⟩|⟨c4,h0⟩
 ·refine zi Z (beq_iff_eq.2 c4) ?_;refine aS ?_;refine aA Z Z ?_;refine aN Z ?_;refine T.ret ?_;obtain rfl:=osi h0;exact rO [] [2] Z undef (cT Z ResL.nil) Z Z Z Z
 refine zh Z (beq_eq_false_iff_ne.2 c4) ?_;refine aK Z ?_;refine aS ?_;refine aA Z Z ?_;refine aN Z ?_;refine T.ret ?_;obtain rfl:=osi h0;exact rO [] [2] Z undef (cT Z ResL.nil) Z Z Z Z
noncomputable def vX.l1 (a0:List UInt8) (s3:Int):Option (Lp Int (Ex Unit Bool)):=
 if s3<(a0.length:Int) then
 bnd (idx a0 s3) fun x12=>
 bnd (sA x12) fun x13=>
 if x13=0 then
 some (Lp.next (w64 (s3+1)))
else
 some (Lp.done (Ex.ret true))
else
 some (Lp.done (Ex.brk ()))
noncomputable def vX (a0:List UInt8):Option Bool:=
 bnd (loop (vX.l1 a0) 0:Option (Ex Unit Bool)) fun t1=>match t1 with
| .brk u2=>
 some false
| .ret u2=>some u2
theorem pG {a0:List UInt8} {res:Bool} (h0:vX a0=some res):zn X 259 [.sl 1 (lB a0)] [] (fun x=>(dT res)) (fun x=>[]):=by
 unfold vX at h0;refine zg (X:=X) Z Tryz.func259 Z Z Tryz.ntmps259 Z Z ?_;refine aS ?_;refine aA Z Z ?_;refine aN Z ?_;refine T.seq ?_;refine aS ?_;refine aA Z Z ?_;refine z6 (zk (OpR.pure Z) (xh (xX _ _))) Z ?_;refine aA Z Z ?_;refine aN Z ?_;obtain⟨t1,ht1,h0⟩:=bS h0;refine zz (fun S'=>∃ u2,t1=Ex.brk u2∧S'=⟨[(2,(dT false))],[],15⟩) (fun _ h=>h) ?_ ?_;rotate_left
 ·rintro _ ⟨u2,rfl,rfl⟩;show T X _ _ _;refine aS ?_;refine aA Z Z ?_;refine aN Z ?_;refine T.ret ?_;obtain rfl:=osi h0;exact rO [] [2] Z undef (cT Z ResL.nil) Z Z Z Z
 refine T.block ?_;obtain⟨n4,n9⟩:=zw ht1;refine T.loop (fun n S'=>∃ S'',Gst S' S''∧∃ s3:Int,S''=⟨[(7,(dN s3)),(6,(dN (a0.length:Int))),(5,.sl 1 (lB a0)),(2,(dT false))],[],15⟩∧wc (vX.l1 a0) n s3=some t1) n4 ?_ ?_
 ·exact⟨_,Gst.only [2,5,6,7] Z,0,Z,n9⟩
 rintro n4 _ ⟨_,g,s3,rfl,i8⟩;refine T.ghost g ?_;obtain⟨m5,q6,rfl,q7,i8⟩:=zx i8;unfold vX.l1 at q7;refine aS ?_;refine aA Z Z ?_;refine aN Z ?_;refine T.seq ?_;rcases z9 q7 with ⟨c11,q7⟩|⟨c11,q7⟩;rotate_left
 ·refine zh Z (eF c11) ?_;refine T.exit ?_;obtain rfl:=osi q7;obtain rfl:_=_:=i8;exact⟨_,Gst.only [2] Z,_,Z,Z⟩
 refine zi Z (eT c11) ?_;refine aK Z ?_;refine T.seq ?_;refine T.block ?_;refine aS ?_;obtain⟨x12,hx12,q7⟩:=bS q7;refine z6 (zp wt hx12 Z Z Z Z Z) Z ?_;iterate 2 refine aA rfl rfl ?_
 refine aN Z ?_;refine aS ?_;refine aA Z Z ?_;obtain⟨x13,hx13,q7⟩:=bS q7;refine z6 (zf fn260 (rF hx13) Z) Z ?_;refine aA Z Z ?_;refine aN Z ?_;rcases z9 q7 with ⟨c14,q7⟩|⟨c14,q7⟩
 ·refine zh Z (zS (beq_iff_eq.2 c14)) ?_;refine aK Z ?_;refine T.region ?_;iterate 2 refine aA rfl rfl ?_
  refine TL.nil ?_;obtain rfl:=osi q7;exact⟨m5,Nat.lt_succ_self _,_,Gst.only [2,5,6,7] Z,w64 (s3+1),Z,i8⟩
 refine zi Z (yd (beq_eq_false_iff_ne.2 c14)) ?_;refine aS ?_;refine aA Z Z ?_;refine aN Z ?_;refine T.ret ?_;obtain rfl:=osi q7;obtain rfl:_=_:=i8;obtain rfl:=osi h0;exact rO [] [2] Z undef (cT Z ResL.nil) Z Z Z Z
noncomputable def vZ.l1 (a0:List UInt8) (s2:Int × Int):Option (Lp (Int × Int) Int):=
 if s2.2<(a0.length:Int) then
 bnd (idx a0 s2.2) fun x11=>
 bnd (sA x11) fun x12=>
 bnd (if x12=2 then
 some (w64 (s2.1+1))
else
 some s2.1:Option Int) fun t13=>
 some (Lp.next (t13,w64 (s2.2+1)))
else
 some (Lp.done s2.1)
noncomputable def vZ (a0:List UInt8):Option Int:=
 bnd (loop (vZ.l1 a0) (0,0):Option Int) fun t1=>
 some t1
theorem quote_quotes_c {a0:List UInt8} {res:Int} (h0:vZ a0=some res):zn X 273 [.sl 1 (lB a0)] [] (fun x=>(dN res)) (fun x=>[]):=by
 unfold vZ at h0;refine zg (X:=X) Z Tryz.func273 Z Z Tryz.ntmps273 Z Z ?_;refine aS ?_;refine aA Z Z ?_;refine aN Z ?_;refine aS ?_;refine aA Z Z ?_;refine aN Z ?_;refine T.seq ?_;refine aS ?_;refine aA Z Z ?_;refine z6 (zk (OpR.pure Z) (xh (xX _ _))) Z ?_;refine aA Z Z ?_;refine aN Z ?_;obtain⟨t1,ht1,h0⟩:=bS h0;refine zz (fun S'=>S'=⟨[(3,(dN t1)),(2,(dN 0))],[],19⟩) (fun _ h=>h) ?_ ?_;rotate_left
 ·rintro _ rfl;show T X _ _ _;refine aS ?_;iterate 2 refine aA rfl rfl ?_
  refine aN Z ?_;refine T.ret ?_;obtain rfl:=osi h0;exact rO [] [2] Z undef (cT Z ResL.nil) Z Z Z Z
 refine T.block ?_;obtain⟨n3,n8⟩:=zw ht1;refine T.loop (fun n S'=>∃ S'',Gst S' S''∧∃ s2:Int × Int,S''=⟨[(8,(dN s2.2)),(7,(dN (a0.length:Int))),(6,.sl 1 (lB a0)),(3,(dN s2.1)),(2,(dN 0))],[],19⟩∧wc (vZ.l1 a0) n s2=some t1) n3 ?_ ?_
 ·exact⟨_,Gst.only [2,3,6,7,8] Z,(0,0),Z,n8⟩
 rintro n3 _ ⟨_,g,s2,rfl,i7⟩;refine T.ghost g ?_;obtain⟨m4,q5,rfl,q6,i7⟩:=zx i7;unfold vZ.l1 at q6;refine aS ?_;refine aA Z Z ?_;refine aN Z ?_;refine T.seq ?_;rcases z9 q6 with ⟨c10,q6⟩|⟨c10,q6⟩;rotate_left
 ·refine zh Z (eF c10) ?_;refine T.exit ?_;obtain rfl:=osi q6;obtain rfl:_=_:=i7;exact⟨_,Gst.only [2,3] Z,Z⟩
 refine zi Z (eT c10) ?_;refine aK Z ?_;refine T.seq ?_;refine T.block ?_;refine aS ?_;obtain⟨x11,hx11,q6⟩:=bS q6;refine z6 (zp wt hx11 Z Z Z Z Z) Z ?_;iterate 2 refine aA rfl rfl ?_
 refine aN Z ?_;refine aS ?_;refine aA Z Z ?_;obtain⟨x12,hx12,q6⟩:=bS q6;refine z6 (zf fn260 (rF hx12) Z) Z ?_;refine aA Z Z ?_;refine aN Z ?_;obtain⟨t13,ht13,q6⟩:=bS q6;refine zz (fun S'=>S'=⟨[(8,(dN s2.2)),(7,(dN (a0.length:Int))),(6,.sl 1 (lB a0)),(3,(dN t13)),(2,(dN 0))],[],19⟩) (fun _ h=>h) ?_ ?_;rotate_left
 ·rintro _ rfl;show T X _ _ _;refine T.region ?_;iterate 2 refine aA rfl rfl ?_
  refine TL.nil ?_;obtain rfl:=osi q6;exact⟨m4,Nat.lt_succ_self _,_,Gst.only [2,3,6,7,8] Z,(t13,w64 (s2.2+1)),Z,i7⟩
 rcases z9 ht13 with ⟨c14,ht13⟩|⟨c14,ht13⟩;rotate_left
 ·refine zh Z (beq_eq_false_iff_ne.2 c14) ?_;refine T.skip ?_;obtain rfl:=osi ht13;exact⟨_,Gst.only [2,3,6,7,8] Z,Z⟩
 refine zi Z (beq_iff_eq.2 c14) ?_;refine T.region ?_;iterate 3 refine aA rfl rfl ?_
 refine TL.nil ?_;obtain rfl:=osi ht13;exact⟨_,Gst.only [2,3,6,7,8] Z,Z⟩
noncomputable def pe (a0:List UInt8):Option Int:=
 bnd (vX a0) fun x1=>
 if x1=true then
 bnd (vZ a0) fun x3=>
 some (w64 ((w64 ((a0.length:Int)+x3))+2))
else
 some (a0.length:Int)
theorem quote_Width_c {a0:List UInt8} {res:Int} (h0:pe a0=some res):zn X 258 [.sl 1 (lB a0)] [] (fun x=>(dN res)) (fun x=>[]):=by
 unfold pe at h0;refine zg (X:=X) Z Tryz.func258 Z Z Tryz.ntmps258 Z Z ?_;refine aS ?_;refine aA Z Z ?_;refine aN Z ?_;refine T.seq ?_;refine aS ?_;refine aA Z Z ?_;obtain⟨x1,hx1,h0⟩:=bS h0;refine z6 (zf fn259 (pG hx1) Z) Z ?_;refine aA Z Z ?_;refine aN Z ?_;rcases z9 h0 with ⟨c2,h0⟩|⟨c2,h0⟩;rotate_left
 ·refine zi Z (yd (eN c2)) ?_;refine aS ?_;refine aA Z Z ?_;refine z6 (zk (OpR.pure Z) (xh (xX _ _))) Z ?_;refine aA Z Z ?_;refine aN Z ?_;refine T.ret ?_;obtain rfl:=osi h0;exact rO [] [2] Z undef (cT Z ResL.nil) Z Z Z Z
 refine zh Z (zS (c2)) ?_;refine aK Z ?_;refine aS ?_;refine aA Z Z ?_;refine z6 (zk (OpR.pure Z) (xh (xX _ _))) Z ?_;refine aA Z Z ?_;obtain⟨x3,hx3,h0⟩:=bS h0;refine z6 (zf fn273 (quote_quotes_c hx3) Z) Z ?_;iterate 3 refine aA rfl rfl ?_
 refine aN Z ?_;refine T.ret ?_;obtain rfl:=osi h0;exact rO [] [2] Z undef (cT Z ResL.nil) Z Z Z Z
noncomputable def sr.l1 (a0:List UInt8) (s11:Int × (List UInt8)):Option (Lp (Int × (List UInt8)) (List UInt8)):=
 if s11.1<(a0.length:Int) then
 bnd (idx a0 s11.1) fun x20=>
 bnd (sA x20) fun x21=>
 bnd (if x21=2 then
 bnd (app 1 s11.2 [x20]) fun x25=>
 some x25
else
 some s11.2:Option (List UInt8)) fun t22=>
 bnd (app 1 t22 [x20]) fun x27=>
 some (Lp.next (w64 (s11.1+1),x27))
else
 some (Lp.done s11.2)
noncomputable def sr (a0:List UInt8):Option (List UInt8):=
 bnd (pe a0) fun x1=>
 bnd ((mkc 1 x1:Option (List UInt8))) fun x2=>
 bnd (vX a0) fun x4=>
 if x4=true then
 bnd (app 1 x2 [34]) fun x6=>
 bnd (loop (sr.l1 a0) (0,x6):Option (List UInt8)) fun t8=>
 bnd (app 1 t8 [34]) fun x29=>
 some x29
else
 bnd (app 1 x2 a0) fun x31=>
 some x31
theorem quote_Put_c {a0:List UInt8} {res:(List UInt8)} (h0:sr a0=some res):zn X 230 [.sl 1 (lB a0)] [] (fun x=>.sl 1 (lB res)) (fun x=>[]):=by
 unfold sr at h0;refine zg (X:=X) Z Tryz.func230 Z Z Tryz.ntmps230 Z Z ?_;refine aS ?_;refine aA Z Z ?_;refine aN Z ?_;refine aS ?_;refine aA Z Z ?_;obtain⟨x1,hx1,h0⟩:=bS h0;refine z6 (zf fn258 (quote_Width_c hx1) Z) Z ?_;obtain⟨x2,hx2,h0⟩:=bS h0;refine TL.op (qm wt hx2 Z Z Z Z Z Z Z (fun _=>Z)) Z (fun v3=>?_);refine aA Z Z ?_;refine aN Z ?_;refine T.seq ?_;refine aS ?_;refine aA Z Z ?_;obtain⟨x4,hx4,h0⟩:=bS h0;refine z6 (zf fn259 (pG hx4) Z) Z ?_;refine aA Z Z ?_;refine aN Z ?_;rcases z9 h0 with ⟨c5,h0⟩|⟨c5,h0⟩;rotate_left
 ·refine zi Z (yd (eN c5)) ?_;refine aS ?_;iterate 2 refine aA rfl rfl ?_
  obtain⟨x31,hx31,h0⟩:=bS h0;refine TL.op (zH (m:=a0) wt 0 hx31 Z Z Z Z Z Z Z Z Z (fun _=>Z)) Z (fun v32=>?_);refine aA Z Z ?_;refine aN Z ?_;refine T.ret ?_;obtain rfl:=osi h0;exact zC (ks:=[]) (Gst.trans (Gst.only [2] Z) (Gst.trans (zA 0 Z Z (ReS.cons (Re.base .all) ReS.nil) (ReO.same ReO.nil)) (Gst.pick [] Z Z))) undef (cT Z ResL.nil) Z Z Z Z
 refine zh Z (zS (c5)) ?_;refine aK Z ?_;refine aS ?_;refine aA Z Z ?_;refine z6 (yC Z Z Z Z Z Z Z) Z ?_;obtain⟨x6,hx6,h0⟩:=bS h0;refine TL.op (zH (m:=[34]) wt 0 hx6 Z Z Z Z Z Z Z Z Z (fun _=>Z)) Z (fun v7=>?_);refine aA Z Z ?_;refine aN Z ?_;refine T.seq ?_;refine aS ?_;refine aA Z Z ?_;refine z6 (zk (OpR.pure Z) (xh (xX _ _))) Z ?_;refine aA Z Z ?_;refine aN Z ?_;obtain⟨t8,ht8,h0⟩:=bS h0;refine zz (fun S'=>∃ y9:Value,S'=⟨[(3,.val y9),(2,.val (.slice none 0 0))],[.row y9 (lB t8) 1 5],39⟩) (fun _ h=>h) ?_ ?_;rotate_left
 ·rintro _ ⟨y9,rfl⟩;show T X _ _ _;refine aS ?_;refine aA Z Z ?_;refine z6 (yC Z Z Z Z Z Z Z) Z ?_;obtain⟨x29,hx29,h0⟩:=bS h0;refine TL.op (zH (m:=[34]) wt 0 hx29 Z Z Z Z Z Z Z Z Z (fun _=>Z)) Z (fun v30=>?_);refine aA Z Z ?_;refine aN Z ?_;refine T.ret ?_;obtain rfl:=osi h0;exact zC (ks:=[]) (Gst.trans (Gst.only [2] Z) (Gst.trans (zA 0 Z Z (ReS.cons (Re.base .all) ReS.nil) (ReO.same ReO.nil)) (Gst.pick [] Z Z))) undef (cT Z ResL.nil) Z Z Z Z
 refine T.block ?_;obtain⟨n12,n17⟩:=zw ht8;refine T.loop (fun n S'=>∃ S'',Gst S' S''∧∃ y10:Value,∃ s11:Int × (List UInt8),S''=⟨[(20,(dN s11.1)),(19,(dN (a0.length:Int))),(18,.sl 1 (lB a0)),(3,.val y10),(2,.val (.slice none 0 0))],[.row y10 (lB s11.2) 1 5],39⟩∧wc (sr.l1 a0) n s11=some t8) n12 ?_ ?_
 ·exact⟨_,Gst.only [2,3,18,19,20] Z,v7,(0,x6),Z,n17⟩
 rintro n12 _ ⟨_,g,y10,s11,rfl,i16⟩;refine T.ghost g ?_;obtain⟨m13,q14,rfl,q15,i16⟩:=zx i16;unfold sr.l1 at q15;refine aS ?_;refine aA Z Z ?_;refine aN Z ?_;refine T.seq ?_;rcases z9 q15 with ⟨c19,q15⟩|⟨c19,q15⟩;rotate_left
 ·refine zh Z (eF c19) ?_;refine T.exit ?_;obtain rfl:=osi q15;obtain rfl:_=_:=i16;exact⟨_,Gst.only [2,3] Z,y10,Z⟩
 refine zi Z (eT c19) ?_;refine aK Z ?_;refine T.seq ?_;refine T.block ?_;refine aS ?_;obtain⟨x20,hx20,q15⟩:=bS q15;refine z6 (zp wt hx20 Z Z Z Z Z) Z ?_;iterate 2 refine aA rfl rfl ?_
 refine aN Z ?_;refine T.seq ?_;refine aS ?_;refine aA Z Z ?_;obtain⟨x21,hx21,q15⟩:=bS q15;refine z6 (zf fn260 (rF hx21) Z) Z ?_;refine aA Z Z ?_;refine aN Z ?_;obtain⟨t22,ht22,q15⟩:=bS q15;refine zz (fun S'=>∃ y23:Value,S'=⟨[(20,(dN s11.1)),(19,(dN (a0.length:Int))),(18,.sl 1 (lB a0)),(5,.val (.int .u8 (x20.toNat:Int))),(3,.val y23),(2,.val (.slice none 0 0))],[.row y23 (lB t22) 1 5],39⟩) (fun _ h=>h) ?_ ?_;rotate_left
 ·rintro _ ⟨y23,rfl⟩;show T X _ _ _;refine T.region ?_;iterate 2 refine aA rfl rfl ?_
  refine z6 (yC Z Z Z Z Z Z Z) Z ?_;obtain⟨x27,hx27,q15⟩:=bS q15;refine TL.op (zH (m:=[x20]) wt 0 hx27 Z Z Z Z Z Z Z Z Z (fun _=>Z)) Z (fun v28=>?_);refine aA Z Z ?_;refine aN Z ?_;refine T.region ?_;iterate 2 refine aA rfl rfl ?_
  refine TL.nil ?_;obtain rfl:=osi q15;exact⟨m13,Nat.lt_succ_self _,_,Gst.only [2,3,18,19,20] Z,v28,(w64 (s11.1+1),x27),Z,i16⟩
 rcases z9 ht22 with ⟨c24,ht22⟩|⟨c24,ht22⟩;rotate_left
 ·refine zh Z (beq_eq_false_iff_ne.2 c24) ?_;refine T.skip ?_;obtain rfl:=osi ht22;exact⟨_,Gst.only [2,3,5,18,19,20] Z,y10,Z⟩
 refine zi Z (beq_iff_eq.2 c24) ?_;refine T.region ?_;iterate 2 refine aA rfl rfl ?_
 refine z6 (yC Z Z Z Z Z Z Z) Z ?_;obtain⟨x25,hx25,ht22⟩:=bS ht22;refine TL.op (zH (m:=[x20]) wt 0 hx25 Z Z Z Z Z Z Z Z Z (fun _=>Z)) Z (fun v26=>?_);refine aA Z Z ?_;refine TL.nil ?_;obtain rfl:=osi ht22;exact⟨_,Gst.only [2,3,5,18,19,20] Z,v26,Z⟩
noncomputable def sH (a0:cell_Cell) (a1:List UInt8):Option (List UInt8):=
 if a0.fKept=true then
 bnd (wl a0.fRaw a1) fun x2=>
 some x2
else
 bnd (xo a0 a1) fun x3=>
 bnd (sr x3) fun x4=>
 some x4
theorem cell_Cell_Print_c {a0:cell_Cell} {a1:List UInt8} {b0:Nat} {v1:Value} {res:(List UInt8)} (h0:sH a0 a1=some res):zn X 198 [.agg [.sl 2 (List.map zm a0.fText.fL),dN a0.fText.fN,dN a0.fRaw.fAt,dN a0.fRaw.fN,dT a0.fKept],dP b0] [.var b0 [.val v1] 264,.row v1 (lB a1) 1 5] (fun x=>.sl 1 (lB res)) (fun x=>[.var b0 [.val v1] 264,.row v1 (lB a1) 1 5]):=by
 unfold sH at h0;refine zg (X:=X) Z Tryz.func198 Z Z Tryz.ntmps198 Z Z ?_;refine aS ?_;refine z6 (zD Z Z) Z ?_;refine aA Z Z ?_;refine aN Z ?_;refine T.seq ?_;refine aS ?_;iterate 2 refine aA rfl rfl ?_
 refine aN Z ?_;rcases z9 h0 with ⟨c1,h0⟩|⟨c1,h0⟩
 ·refine zi Z (c1) ?_;refine aS ?_;iterate 3 refine aA rfl rfl ?_
  obtain⟨x2,hx2,h0⟩:=bS h0;refine z6 (OpR.call [0,1] fn201 (uH hx2) Z Z Z (fun _=>Z)) Z ?_;refine aA Z Z ?_;refine aN Z ?_;refine T.ret ?_;obtain rfl:=osi h0;exact rO [0,1] [4] Z undef (cT Z ResL.nil) Z Z Z Z
 refine zh Z (eN c1) ?_;refine aK Z ?_;refine aS ?_;iterate 2 refine aA rfl rfl ?_
 obtain⟨x3,hx3,h0⟩:=bS h0;refine z6 (OpR.call [0,1] fn113 (ul hx3) Z Z Z (fun _=>Z)) Z ?_;obtain⟨x4,hx4,h0⟩:=bS h0;refine z6 (zf fn230 (quote_Put_c hx4) Z) Z ?_;refine aA Z Z ?_;refine aN Z ?_;refine T.ret ?_;obtain rfl:=osi h0;exact rO [0,1] [4] Z undef (cT Z ResL.nil) Z Z Z Z
noncomputable def vD.l1 (a0:row_Row) (a1:List UInt8) (s4:Int × (List UInt8)):Option (Lp (Int × (List UInt8)) (List UInt8)):=
 if s4.1<(a0.fCells.length:Int) then
 bnd (idx a0.fCells s4.1) fun x13=>
 bnd (if s4.1>0 then
 bnd (app 1 s4.2 [44]) fun x18=>
 some x18
else
 some s4.2:Option (List UInt8)) fun t15=>
 bnd (sH x13 a1) fun x20=>
 bnd (app 1 t15 x20) fun x21=>
 some (Lp.next (w64 (s4.1+1),x21))
else
 some (Lp.done s4.2)
noncomputable def vD (a0:row_Row) (a1:List UInt8):Option (List UInt8):=
 bnd (loop (vD.l1 a0 a1) (0,[]):Option (List UInt8)) fun t1=>
 some t1
theorem row_Row_Print_c {a0:row_Row} {a1:List UInt8} {b0:Nat} {v1:Value} {res:(List UInt8)} (h0:vD a0 a1=some res):zn X 135 [.agg [.sl 5 (List.map zo a0.fCells),dN a0.fEnd,dT a0.fHidden],dP b0] [.var b0 [.val v1] 264,.row v1 (lB a1) 1 5] (fun x=>.sl 1 (lB res)) (fun x=>[.var b0 [.val v1] 264,.row v1 (lB a1) 1 5]):=by
 unfold vD at h0;refine zg (X:=X) Z Tryz.func135 Z Z Tryz.ntmps135 Z Z ?_;refine aS ?_;refine z6 (zD Z Z) Z ?_;refine aA Z Z ?_;refine aN Z ?_;refine aS ?_;refine aA Z Z ?_;refine aN Z ?_;refine T.seq ?_;refine aS ?_;iterate 2 refine aA rfl rfl ?_
 refine z6 (zk (OpR.pure Z) (xh (xX _ _))) Z ?_;refine aA Z Z ?_;refine aN Z ?_;obtain⟨t1,ht1,h0⟩:=bS h0;refine zz (fun S'=>∃ y2:Value,S'=⟨[(5,.val y2),(4,.val (.slice none 0 0))],[.var b0 [.val v1] 264,.row v1 (lB a1) 1 5,.row y2 (lB t1) 1 5],28⟩) (fun _ h=>h) ?_ ?_;rotate_left
 ·rintro _ ⟨y2,rfl⟩;show T X _ _ _;refine aS ?_;iterate 2 refine aA rfl rfl ?_
  refine aN Z ?_;refine T.ret ?_;obtain rfl:=osi h0;exact zC (ks:=[0,1]) (Gst.trans (Gst.only [4] Z) (Gst.trans (zA 2 Z Z (ReS.cons (Re.base .all) ReS.nil) (ReO.same (ReO.same (ReO.same ReO.nil)))) (Gst.pick [0,1] Z Z))) undef (cT Z ResL.nil) Z Z Z Z
 refine T.block ?_;obtain⟨n5,n10⟩:=zw ht1;refine T.loop (fun n S'=>∃ S'',Gst S' S''∧∃ y3:Value,∃ s4:Int × (List UInt8),S''=⟨[(11,(dN s4.1)),(10,(dN (a0.fCells.length:Int))),(9,.sl 5 (List.map zo a0.fCells)),(5,.val y3),(4,.val (.slice none 0 0)),(1,(dP b0))],[.var b0 [.val v1] 264,.row v1 (lB a1) 1 5,.row y3 (lB s4.2) 1 5],28⟩∧wc (vD.l1 a0 a1) n s4=some t1) n5 ?_ ?_
 ·exact⟨_,Gst.trans (Gst.only [1,4,5,9,10,11] Z) (ya (ow:=[.var b0 [.val v1] 264,.row v1 (lB a1) 1 5]) 1 5 Z),(.slice none 0 0),(0,[]),Z,n10⟩
 rintro n5 _ ⟨_,g,y3,s4,rfl,i9⟩;refine T.ghost g ?_;obtain⟨m6,q7,rfl,q8,i9⟩:=zx i9;unfold vD.l1 at q8;refine aS ?_;refine aA Z Z ?_;refine aN Z ?_;refine T.seq ?_;rcases z9 q8 with ⟨c12,q8⟩|⟨c12,q8⟩;rotate_left
 ·refine zh Z (eF c12) ?_;refine T.exit ?_;obtain rfl:=osi q8;obtain rfl:_=_:=i9;exact⟨_,Gst.only [4,5] Z,y3,Z⟩
 refine zi Z (eT c12) ?_;refine aK Z ?_;refine T.seq ?_;refine T.block ?_;refine aS ?_;refine aA Z Z ?_;obtain⟨x13,hx13,q8⟩:=bS q8;refine z6 (zp zo hx13 Z Z Z Z Z) Z ?_;refine aA Z Z ?_;refine TL.op (OpR.alloc Z Z (fun _=>Z)) Z (fun p14=>?_);refine aA Z Z ?_;refine zy (OpR.store 3 Z Z Z Z Z Z Z Z) ?_;refine aN Z ?_;refine T.seq ?_;refine aS ?_;iterate 2 refine aA rfl rfl ?_
 refine aN Z ?_;obtain⟨t15,ht15,q8⟩:=bS q8;refine zz (fun S'=>∃ y16:Value,S'=⟨[(11,(dN s4.1)),(10,(dN (a0.fCells.length:Int))),(9,.sl 5 (List.map zo a0.fCells)),(7,(dP (blk p14))),(5,.val y16),(4,.val (.slice none 0 0)),(1,(dP b0))],[.var b0 [.val v1] 264,.row v1 (lB a1) 1 5,.row y16 (lB t15) 1 5,.var (blk p14) [.sl 2 (List.map zm x13.fText.fL),dN x13.fText.fN,dN x13.fRaw.fAt,dN x13.fRaw.fN,dT x13.fKept] 144],28⟩) (fun _ h=>h) ?_ ?_
 ·rcases z9 ht15 with ⟨c17,ht15⟩|⟨c17,ht15⟩;rotate_left
  ·refine zh Z (eF c17) ?_;refine T.skip ?_;obtain rfl:=osi ht15;exact⟨_,Gst.only [1,4,5,7,9,10,11] Z,y3,Z⟩
  refine zi Z (eT c17) ?_;refine T.region ?_;refine aA Z Z ?_;refine z6 (yC Z Z Z Z Z Z Z) Z ?_;obtain⟨x18,hx18,ht15⟩:=bS ht15;refine TL.op (zH (m:=[44]) wt 2 hx18 Z Z Z Z Z Z Z Z Z (fun _=>Z)) Z (fun v19=>?_);refine aA Z Z ?_;refine TL.nil ?_;obtain rfl:=osi ht15;exact⟨_,Gst.only [1,4,5,7,9,10,11] Z,v19,Z⟩
 rintro _ ⟨y16,rfl⟩;show T X _ _ _;refine T.region ?_;refine aA Z Z ?_;refine z6 (z7 3 Z Z Z Z) Z ?_;refine aA Z Z ?_;obtain⟨x20,hx20,q8⟩:=bS q8;refine z6 (OpR.call [0,1] fn198 (cell_Cell_Print_c hx20) Z Z Z (fun _=>Z)) Z ?_;obtain⟨x21,hx21,q8⟩:=bS q8;refine TL.op (zH (m:=x20) wt 2 hx21 Z Z Z Z Z Z Z Z Z (fun _=>Z)) Z (fun v22=>?_);refine aA Z Z ?_;refine aN Z ?_;refine T.region ?_;iterate 2 refine aA rfl rfl ?_
 refine TL.nil ?_;obtain rfl:=osi q8;exact⟨m6,Nat.lt_succ_self _,_,gP [1,4,5,9,10,11] [0,1,2] Z Z Z,v22,(w64 (s4.1+1),x21),Z,i9⟩
noncomputable def px (a0:Int):Option (List UInt8):=
 if a0=1 then
 some [10]
else
 if a0=2 then
 some [13,10]
else
 if a0=3 then
 some [13]
else
 some []
theorem scan_Mark_c {a0:Int} {res:(List UInt8)} (h0:px a0=some res):zn X 199 [dN a0] [] (fun x=>.val (.string (bs res))) (fun x=>[]):=by
 unfold px at h0;refine zg (X:=X) Z Tryz.func199 Z Z Tryz.ntmps199 Z Z ?_;refine aS ?_;refine aA Z Z ?_;refine aN Z ?_;refine T.seq ?_;refine aS ?_;refine aA Z Z ?_;refine aN Z ?_;refine T.block ?_;refine aS ?_;iterate 2 refine aA rfl rfl ?_
 refine aN Z ?_;rcases z9 h0 with ⟨c1,h0⟩|⟨c1,h0⟩
 ·refine zi Z (beq_iff_eq.2 c1) ?_;refine aS ?_;refine aA Z Z ?_;refine aN Z ?_;refine T.ret ?_;obtain rfl:=osi h0;exact rO [] [2] Z undef (cT Z ResL.nil) Z Z Z Z
 refine zh Z (beq_eq_false_iff_ne.2 c1) ?_;refine aS ?_;iterate 2 refine aA rfl rfl ?_
 refine aN Z ?_;rcases z9 h0 with ⟨c2,h0⟩|⟨c2,h0⟩
 ·refine zi Z (beq_iff_eq.2 c2) ?_;refine aS ?_;refine aA Z Z ?_;refine aN Z ?_;refine T.ret ?_;obtain rfl:=osi h0;exact rO [] [2] Z undef (cT Z ResL.nil) Z Z Z Z
 refine zh Z (beq_eq_false_iff_ne.2 c2) ?_;refine aS ?_;iterate 2 refine aA rfl rfl ?_
 refine aN Z ?_;rcases z9 h0 with ⟨c3,h0⟩|⟨c3,h0⟩
 ·refine zi Z (beq_iff_eq.2 c3) ?_;refine aS ?_;refine aA Z Z ?_;refine aN Z ?_;refine T.ret ?_;obtain rfl:=osi h0;exact rO [] [2] Z undef (cT Z ResL.nil) Z Z Z Z
 refine zh Z (beq_eq_false_iff_ne.2 c3) ?_;refine aK Z ?_;refine aS ?_;refine aA Z Z ?_;refine aN Z ?_;refine T.ret ?_;obtain rfl:=osi h0;exact rO [] [2] Z undef (cT Z ResL.nil) Z Z Z Z
noncomputable def sU (a0:grid_Grid) (a1:row_Row):Option (List UInt8):=
 if a1.fEnd=0 then
 bnd (px a0.fEnd) fun x2=>
 some x2
else
 bnd (px a1.fEnd) fun x3=>
 some x3
theorem grid_Grid_mark_c {a0:grid_Grid} {a1:row_Row} {res:(List UInt8)} (h0:sU a0 a1=some res):zn X 136 [.agg [(eOP a0.fRows.fRoot),dT a0.fTail,dN a0.fEnd],.agg [.sl 5 (List.map zo a1.fCells),dN a1.fEnd,dT a1.fHidden]] [] (fun x=>.val (.string (bs res))) (fun x=>[]):=by
 unfold sU at h0;refine zg (X:=X) Z Tryz.func136 Z Z Tryz.ntmps136 Z Z ?_;refine aS ?_;refine z6 (zD Z Z) Z ?_;refine z6 (zD Z Z) Z ?_;refine aA Z Z ?_;refine aN Z ?_;refine T.seq ?_;refine aS ?_;iterate 3 refine aA rfl rfl ?_
 refine aN Z ?_;rcases z9 h0 with ⟨c1,h0⟩|⟨c1,h0⟩
 ·refine zi Z (beq_iff_eq.2 c1) ?_;refine aS ?_;iterate 2 refine aA rfl rfl ?_
  obtain⟨x2,hx2,h0⟩:=bS h0;refine z6 (zf fn199 (scan_Mark_c hx2) Z) Z ?_;refine aA Z Z ?_;refine aN Z ?_;refine T.ret ?_;obtain rfl:=osi h0;exact rO [] [4] Z undef (cT Z ResL.nil) Z Z Z Z
 refine zh Z (beq_eq_false_iff_ne.2 c1) ?_;refine aK Z ?_;refine aS ?_;iterate 2 refine aA rfl rfl ?_
 obtain⟨x3,hx3,h0⟩:=bS h0;refine z6 (zf fn199 (scan_Mark_c hx3) Z) Z ?_;refine aA Z Z ?_;refine aN Z ?_;refine T.ret ?_;obtain rfl:=osi h0;exact rO [] [4] Z undef (cT Z ResL.nil) Z Z Z Z
noncomputable def uG (a0:Int) (a1:row_Row) (a2:Option NP) (a3:Bool) (a4:Int) (a5:List UInt8) (a6:List UInt8):Option (List UInt8):=
 bnd (vD a1 a5) fun x32=>
 bnd (app 1 a6 x32) fun x33=>
 bnd (bnd (xg (⟨(⟨a2⟩:tTr),a3,a4⟩:grid_Grid)) fun x36=>
 if a0<(w64 (x36-1)) then
 some true
else
 if a3=true then
 some true
else
 some ((x32.length:Int)==0):Option Bool) fun t35=>
 if t35=true then
 bnd (sU (⟨(⟨a2⟩:tTr),a3,a4⟩:grid_Grid) a1) fun x41=>
 bnd (app 1 x33 x41) fun x42=>
 some x42
else
 some x33
theorem qA {a0:Int} {a1:row_Row} {a2:Option NP} {a3:Bool} {a4:Int} {a5:List UInt8} {a6:List UInt8} {b0:Nat} {b1:Nat} {b2:Nat} {v3:Value} {v4:Value} {res:(List UInt8)} (h0:uG a0 a1 a2 a3 a4 a5 a6=some res):pq X b0 [dN a0,.agg [.sl 5 (List.map zo a1.fCells),dN a1.fEnd,dT a1.fHidden]] [.lp b0 .ready none [14,15] uS uR [(5,(dP b2)),(3,.nod [dP b1]),(2,.nod [(eOP a2),dT a3,dN a4])] 42,.var b1 [.val v3] 264,.var b2 [.val v4] 122,.row v3 (lB a5) 1 5,.row v4 (lB a6) 1 5] (fun x=>(dT true)) (fun x=>[.lp b0 .ready none [14,15] uS uR [(5,(dP b2)),(3,.nod [dP b1]),(2,.nod [(eOP a2),dT a3,dN a4])] 42,.var b1 [.val v3] 264,.var b2 [.val (vn x 0)] 122,.row v3 (lB a5) 1 5,.row (vn x 0) (lB res) 1 5]):=by
 unfold uG at h0;refine pq.mk (X:=X) Z Z Z ?_;refine aS ?_;refine aA Z Z ?_;refine TL.nil ?_;show T (X.inR b0) _ _ _;refine T.region ?_;refine TL.op (OpR.alloc Z Z (fun _=>Z)) Z (fun p31=>?_);refine zy (OpR.store 5 Z Z Z Z Z Z Z Z) ?_;refine TL.nil ?_;refine RoundA.mk ?_;refine T.block ?_;refine aS ?_;refine z6 (z7 5 Z Z Z Z) Z ?_;refine aA Z Z ?_;obtain⟨x32,hx32,h0⟩:=bS h0;refine z6 (OpR.call [1,3] fn135 (row_Row_Print_c hx32) Z Z Z (fun _=>Z)) Z ?_;refine aA Z Z ?_;refine TL.nil ?_;show T (X.inR b0) _ _ _;refine aS ?_;refine z6 (z7 2 Z Z Z Z) Z ?_;refine aA Z Z ?_;obtain⟨x33,hx33,h0⟩:=bS h0;refine TL.op (zH (m:=x32) wt 4 hx33 Z Z Z Z Z Z Z Z Z (fun _=>Z)) Z (fun v34=>?_);refine zy (OpR.store 2 Z Z Z Z Z Z Z Z) ?_;refine TL.nil ?_;show T (X.inR b0) _ _ _;refine T.seq ?_;obtain⟨t35,ht35,h0⟩:=bS h0;refine zz (fun S'=>S'=⟨[(35,(dT t35)),(7,(dP (blk p31))),(5,(dP b2)),(2,.nod [(eOP a2),dT a3,dN a4])],[.lp b0 .busy none [14,15] uS uR [(5,(dP b2)),(3,.nod [dP b1]),(2,.nod [(eOP a2),dT a3,dN a4])] 42,.var b1 [.val v3] 264,.var b2 [.val v34] 122,.row v3 (lB a5) 1 5,.row v34 (lB x33) 1 5,.var (blk p31) [.sl 5 (List.map zo a1.fCells),dN a1.fEnd,dT a1.fHidden] 49],42⟩) (fun _ h=>h) ?_ ?_
 ·refine T.region ?_;iterate 2 refine aA rfl rfl ?_
  obtain⟨x36,hx36,ht35⟩:=bS ht35;refine z6 (zf fn22 (wV hx36) Z) Z ?_;iterate 3 refine aA rfl rfl ?_
  rcases z9 ht35 with ⟨c37,ht35⟩|⟨c37,ht35⟩
  ·refine TL.off Z Z Z Z (eT c37) Z Z ?_;refine TL.off Z Z Z Z (eT c37) Z Z ?_;refine z6 (zt Z (eT c37) Z) Z ?_;refine aA Z Z ?_;refine TL.off Z Z Z Z Z Z Z ?_;refine TL.off Z Z Z Z Z Z Z ?_;refine TL.off Z Z Z Z Z Z Z ?_;refine z6 (zt Z Z Z) Z ?_;refine TL.nil ?_;obtain rfl:=osi ht35;exact⟨_,Gst.only [2,5,7,35] Z,Z⟩
  refine TL.on Z Z Z Z (eF c37) ?_;refine aA Z Z ?_;refine TL.on Z Z Z Z (eF c37) ?_;refine aA Z Z ?_;refine z6 (zu Z (eF c37) Z) Z ?_;refine aA Z Z ?_;rcases z9 ht35 with ⟨c38,ht35⟩|⟨c38,ht35⟩
  ·refine TL.off Z Z Z Z (c38) Z Z ?_;refine TL.off Z Z Z Z (c38) Z Z ?_;refine TL.off Z Z Z Z (c38) Z Z ?_;refine z6 (zt Z (c38) Z) Z ?_;refine TL.nil ?_;obtain rfl:=osi ht35;exact⟨_,Gst.only [2,5,7,35] Z,Z⟩
  refine TL.on Z Z Z Z (eN c38) ?_;refine aA Z Z ?_;refine TL.on Z Z Z Z (eN c38) ?_;refine z6 (zk (OpR.pure Z) (xh (xX _ _))) Z ?_;refine TL.on Z Z Z Z (eN c38) ?_;refine aA Z Z ?_;refine z6 (zu Z (eN c38) Z) Z ?_;refine TL.nil ?_;obtain rfl:=osi ht35;exact⟨_,Gst.only [2,5,7,35] Z,Z⟩
 rintro _ rfl;show T (X.inR b0) _ _ _;rcases z9 h0 with ⟨c39,h0⟩|⟨c39,h0⟩;rotate_left
 ·refine zh Z (eN c39) ?_;refine T.skip ?_;obtain rfl:=osi h0;exact qe.mk (ks:=[0,1,2,3,4]) (gP [] [0,1,2,3,4] Z Z Z) (.tuple #[v34]) Z Z Z Z Z
 refine zi Z (c39) ?_;obtain⟨x41,hx41,h0⟩:=bS h0;obtain⟨x42,hx42,h0⟩:=bS h0;refine yx zW (fun env40=>[.val v34,.agg [(eOP a2),dT a3,dN a4],.agg [.sl 5 (List.map zo a1.fCells),dN a1.fEnd,dT a1.fHidden],.val (.string (bs x41)),.val (env40 4),.dead]) (fun D env40=>[.lp b0 .busy none [14,15] uS uR [(5,(dP b2)),(3,.nod [dP b1]),(2,.nod [(eOP a2),dT a3,dN a4])] 42,.var b1 [.val v3] 264,(bif D 5 then .var b2 [.val (env40 4)] 122 else .var b2 [.val v34] 122),.row v3 (lB a5) 1 5,(bif D 4 then .row (env40 4) (lB x42) 1 5 else .row v34 (lB x33) 1 5),.var (blk p31) [.sl 5 (List.map zo a1.fCells),dN a1.fEnd,dT a1.fHidden] 49]) [0,0,0,6,15,31] [] _ (by decide +kernel) (by decide +kernel) (fun _=>Z) (fun _=>Z) ?_ (fun _=>Z) (fun _=>Z) ?_;rotate_left
 ·intro env40;obtain rfl:=osi h0;exact qe.mk (ks:=[0,1,2,3,4]) (gP [] [0,1,2,3,4] Z Z Z) (.tuple #[(env40 4)]) Z Z Z Z Z
 refine zj true ?_ (fun _ _ _ _ _ _ _=>Z) ?_
 ·intro D env40 hA;have e4:D 4=false:=hA.no 4 _ rfl rfl;have e5:D 5=false:=hA.no 5 _ rfl rfl;exact zI [(4,false),(5,false)] ⟨e4,e5,trivial⟩ (Want.plain Z) (z7 2 Z Z Z Z) (fun x=>Z) (fun x=>Z)
 refine aC ?_;refine oT (.agg [.sl 5 (List.map zo a1.fCells),dN a1.fEnd,dT a1.fHidden]) (fun _ _=>z7 5 Z Z Z Z) ?_;refine oT (.val (.string (bs x41))) (fun _ _=>zf fn136 (grid_Grid_mark_c hx41) Z) ?_;refine zj true ?_ (fun D hA env40 x j hj hD=>match j,hj,hD with|0,_,_=>Z|1,_,_=>Z|2,_,_=>Z|3,_,_=>Z|4,hj,_=>absurd Z hj|5,_,_=>Z|_+6,_,_=>Z) ?_
 ·intro D env40 hA;have e5:D 5=false:=hA.no 5 _ rfl rfl;exact zI [(5,false),(4,false)] ⟨e5,hA.me,trivial⟩ (Want.plain Z) (OpR.appendStr (m:=x41) 4 hx42 Z Z Z Z Z Z Z Z Z Z Z (fun _=>Z)) (fun x=>Z) (fun x=>Z)
 refine zj true ?_ (fun _ _ _ _ _ _ _=>Z) ?_
 ·intro D env40 hA;have e4:D 4=true:=hA.yes 4 _ rfl rfl;exact zI [(4,true),(5,false)] ⟨e4,hA.me,trivial⟩ (Want.plain Z) (OpR.store 2 Z Z Z Z Z Z Z Z) (fun x=>Z) (fun x=>Z)
 exact trivial
noncomputable def xc.l1 (a0:Option NP) (a1:Bool) (a2:Int) (a4:Int) (a6:List UInt8) (s10:Int × (List UInt8) × (List wFr)):Option (Lp (Int × (List UInt8) × (List wFr)) (List UInt8)):=
 if s10.1<a4 then
  bnd (ye s10.2.2) fun x19=>
  bnd (idx s10.2.2 x19) fun x20=>
  bnd (some x20.fN) fun q21=>match q21 with
   | none=>
    none
   | some z22=>
    bnd (vq z22) fun x24=>
    bnd (if x20.fNext=(x24.fItems.length:Int) then
     bnd (zM s10.2.2) fun x29=>
     some x29.2
    else
     some s10.2.2:Option (List wFr)) fun t26=>
    bnd (ye t26) fun x31=>
    bnd (idx t26 x31) fun x32=>
    bnd (some x32.fN) fun q33=>match q33 with
     | none=>
      none
     | some z34=>
      bnd (vq z34) fun x36=>
      bnd (idx x36.fItems x32.fNext) fun x38=>
      bnd (uG s10.1 x38 a0 a1 a2 a6 s10.2.1) fun x39=>
      some (Lp.next (w64 (s10.1+1),x39,(t26.set x31.toNat (⟨x32.fN,x32.fFirst,w64 (x32.fNext+1)⟩:wFr))))
 else
  some (Lp.done s10.2.1)
noncomputable def xc (a0:Option NP) (a1:Bool) (a2:Int) (a3:Int) (a4:Int) (a5:Option NP) (a6:List UInt8):Option (List UInt8):=
 if a3=a4 then
 some []
else
 bnd (yF (⟨a5⟩:tTr)) fun x4=>
 match x4 with
| .inl x4=>
 none
| .inr x4=>
 bnd (zO x4.1 x4.2.1 x4.2.2 0 a3) fun x5=>
 bnd (loop (xc.l1 a0 a1 a2 a4 a6) (a3,[],x5):Option (List UInt8)) fun t6=>
 some t6
theorem rl {a0:Option NP} {a1:Bool} {a2:Int} {a3:Int} {a4:Int} {a5:Option NP} {a6:List UInt8} {b0:Nat} {b1:Nat} {b2:Nat} {b3:Nat} {b4:Nat} {b5:Nat} {v6:Value} {res:(List UInt8)} (h0:xc a0 a1 a2 a3 a4 a5 a6=some res):zn X 146 [.fn (.yield b0) [] [],dP b1,dP b2,dP b3] [.lp b0 .ready none [14,15] uS uR [(5,(dP b5)),(3,.nod [dP b4]),(2,.nod [(eOP a0),dT a1,dN a2])] 42,.var b1 [dN a3] 3,.var b2 [dN a4] 3,.var b3 [(eOP a5)] 25,.var b4 [.val v6] 264,.var b5 [.val (.slice none 0 0)] 122,.row v6 (lB a6) 1 5] (fun x=>.tup []) (fun x=>[.lp b0 .ready none [14,15] uS uR [(5,(dP b5)),(3,.nod [dP b4]),(2,.nod [(eOP a0),dT a1,dN a2])] 42,.var b1 [dN a3] 3,.var b2 [dN a4] 3,.var b3 [(eOP a5)] 25,.var b4 [.val v6] 264,.var b5 [.val (vn x 0)] 122,.row v6 (lB a6) 1 5,.row (vn x 0) (lB res) 1 5]):=by
 unfold xc at h0;refine zg (X:=X) Z Tryz.func146 Z Z Tryz.ntmps146 Z Z ?_;refine T.seq ?_;refine aS ?_;refine z6 (z7 1 Z Z Z Z) Z ?_;refine z6 (z7 2 Z Z Z Z) Z ?_;refine aA Z Z ?_;refine aN Z ?_;rcases z9 h0 with ⟨c1,h0⟩|⟨c1,h0⟩
 ·refine zi Z (beq_iff_eq.2 c1) ?_;refine T.ret ?_;obtain rfl:=osi h0;exact zC (ks:=[0,1,2,3,4,5,6,7]) (Gst.trans (Gst.only [] Z) (ya (ow:=[.lp b0 .ready none [14,15] uS uR [(5,(dP b5)),(3,.nod [dP b4]),(2,.nod [(eOP a0),dT a1,dN a2])] 42,.var b1 [dN a3] 3,.var b2 [dN a4] 3,.var b3 [(eOP a5)] 25,.var b4 [.val v6] 264,.var b5 [.val (.slice none 0 0)] 122,.row v6 (lB a6) 1 5]) 1 5 Z)) (.tuple #[(.slice none 0 0)]) ResL.nil Z Z Z Z
 refine zh Z (beq_eq_false_iff_ne.2 c1) ?_;refine aK Z ?_;refine aS ?_;refine TL.op (OpR.alloc Z Z (fun _=>Z)) Z (fun p2=>?_);refine aN Z ?_;refine T.seq ?_;obtain⟨x4,hx4,h0⟩:=bS h0;rcases x4 with x4|x4
 ·dsimp only at h0;exact (by cases h0)
 dsimp only at h0;obtain⟨x5,hx5,h0⟩:=bS h0;refine yx zW (fun env3=>[.agg [(eOP a5)],.nod [.sl 1 (List.map eNP x4.1),.sl 3 (List.map z8 x4.2.1),dN x4.2.2],dN a3,.tup []]) (fun D env3=>[.lp b0 .ready none [14,15] uS uR [(5,(dP b5)),(3,.nod [dP b4]),(2,.nod [(eOP a0),dT a1,dN a2])] 42,.var b1 [dN a3] 3,.var b2 [dN a4] 3,.var b3 [(eOP a5)] 25,.var b4 [.val v6] 264,.var b5 [.val (.slice none 0 0)] 122,.row v6 (lB a6) 1 5,(bif D 3 then .var (blk p2) [.val (vn (env3 3) 0)] 228 else .var (blk p2) [.val (.slice none 0 0)] 228)]++(bif D 3 then [.row (vn (env3 3) 0) (List.map yO x5) 3 234] else [])) [0,1,0,7] [0,1,2,5] _ (by decide +kernel) (by decide +kernel) (fun _=>Z) (fun _=>Z) ?_ (fun _=>Z) (fun _=>Z) ?_
 ·refine oT (.agg [(eOP a5)]) (fun _ _=>z7 3 Z Z Z Z) ?_;refine oT (.nod [.sl 1 (List.map eNP x4.1),.sl 3 (List.map z8 x4.2.1),dN x4.2.2]) (fun _ _=>zf fn148 (v8 hx4) Z) ?_;refine oT ((dN a3)) (fun _ _=>z7 1 Z Z Z Z) ?_;refine zj true ?_ (fun D hA env3 x j hj hD=>match j,hj,hD with|0,_,_=>Z|1,_,_=>Z|2,_,_=>Z|3,hj,_=>absurd Z hj|_+4,_,_=>Z) ?_
  ·intro D env3 hA;exact zI [(3,false)] ⟨hA.me,trivial⟩ (Want.plain Z) (OpR.call [7] fn147 (vl hx5) Z Z Z (fun _=>Z)) (fun x=>Z) (fun x=>Z)
  exact trivial
 intro env3;show T X _ _ _;refine aS ?_;refine z6 (z7 1 Z Z Z Z) Z ?_;refine aA Z Z ?_;refine aN Z ?_;obtain⟨t6,ht6,h0⟩:=bS h0;refine T.cutN (fun S'=>∃ y7:Value,S'=⟨[],[.lp b0 .ready none [14,15] uS uR [(5,(dP b5)),(3,.nod [dP b4]),(2,.nod [(eOP a0),dT a1,dN a2])] 42,.var b1 [dN a3] 3,.var b2 [dN a4] 3,.var b3 [(eOP a5)] 25,.var b4 [.val v6] 264,.var b5 [.val y7] 122,.row v6 (lB a6) 1 5,.row y7 (lB t6) 1 5],62⟩) (fun _ _ g ⟨h,S',ds,g',r⟩=>⟨h,S',ds,Gst.trans g g',r⟩) ?_ ?_;rotate_left
 ·rintro _ ⟨y7,rfl⟩;obtain rfl:=osi h0;exact xj (ks:=[0,1,2,3,4,5,6,7]) (Gst.only [] Z) (.tuple #[y7]) ResL.nil Z Z Z Z
 refine T.block ?_;obtain⟨n11,n16⟩:=zw ht6;refine T.loop (fun n S'=>∃ S'',Gst S' S''∧∃ y8:Value,∃ y9:Value,∃ s10:Int × (List UInt8) × (List wFr),S''=⟨[(6,(dN s10.1)),(5,(dP (blk p2))),(2,(dP b2)),(0,.fn (.yield b0) [] [])],[.lp b0 .ready none [14,15] uS uR [(5,(dP b5)),(3,.nod [dP b4]),(2,.nod [(eOP a0),dT a1,dN a2])] 42,.var b1 [dN a3] 3,.var b2 [dN a4] 3,.var b3 [(eOP a5)] 25,.var b4 [.val v6] 264,.var b5 [.val y8] 122,.row v6 (lB a6) 1 5,.var (blk p2) [.val y9] 228,.row y8 (lB s10.2.1) 1 5,.row y9 (List.map yO s10.2.2) 3 234],62⟩∧wc (xc.l1 a0 a1 a2 a4 a6) n s10=some t6) n11 ?_ ?_
 ·exact⟨_,Gst.trans (Gst.only [0,2,5,6] Z) (Gst.trans (ya (ow:=[.lp b0 .ready none [14,15] uS uR [(5,(dP b5)),(3,.nod [dP b4]),(2,.nod [(eOP a0),dT a1,dN a2])] 42,.var b1 [dN a3] 3,.var b2 [dN a4] 3,.var b3 [(eOP a5)] 25,.var b4 [.val v6] 264,.var b5 [.val (.slice none 0 0)] 122,.row v6 (lB a6) 1 5,.var (blk p2) [.val (vn (env3 3) 0)] 228,.row (vn (env3 3) 0) (List.map yO x5) 3 234]) 1 5 Z) (Gst.pick [0,1,2,3,4,5,6,7,9,8] Z Z)),(.slice none 0 0),(vn (env3 3) 0),(a3,[],x5),Z,n16⟩
 rintro n11 _ ⟨_,g,y8,y9,s10,rfl,i15⟩;refine T.ghost g ?_;obtain⟨m12,q13,rfl,q14,i15⟩:=zx i15;unfold xc.l1 at q14;refine T.seq ?_;refine aS ?_;refine aA Z Z ?_;refine z6 (z7 2 Z Z Z Z) Z ?_;refine aA Z Z ?_;refine aN Z ?_;rcases z9 q14 with ⟨c18,q14⟩|⟨c18,q14⟩;rotate_left
 ·refine zh Z (eF c18) ?_;refine T.exit ?_;obtain rfl:=osi q14;obtain rfl:_=_:=i15;exact⟨_,gP [] [0,1,2,3,4,5,6,8] Z Z Z,y8,Z⟩
 refine zi Z (eT c18) ?_;refine aK Z ?_;refine T.seq ?_;refine T.block ?_;refine T.seq ?_;refine aS ?_;obtain⟨x19,hx19,q14⟩:=bS q14;refine z6 (OpR.call [7,9] fn149 (yT hx19) Z Z Z (fun _=>Z)) Z ?_;refine aA Z Z ?_;refine aN Z ?_;refine T.seq ?_;obtain⟨x20,hx20,q14⟩:=bS q14;obtain⟨q21,hq21,q14⟩:=bS q14;rcases q21 with _|z22
 ·dsimp only at q14;exact (by cases q14)
 dsimp only at q14;obtain⟨x24,hx24,q14⟩:=bS q14;rw[xk hx24] at hq21;refine yo zW [.val (.pointer (some ⟨blk y9,x19.toNat*3,none⟩)),.val (.pointer (some ⟨blk y9,x19.toNat*3,none⟩)),.val (.pointer (some ⟨blk y9,x19.toNat*3+2,none⟩)),dN x20.fNext,.val (.pointer (some ⟨blk y9,x19.toNat*3,none⟩)),.val (.pointer (some ⟨blk y9,x19.toNat*3,none⟩)),.val (.pointer (some ⟨blk y9,x19.toNat*3,none⟩)),.nod [.sl 1 (List.map eNP x24.fKids),.sl 3 (List.map z8 x24.fItems),dN x24.fN],.nod [.sl 1 (List.map eNP x24.fKids),.sl 3 (List.map z8 x24.fItems),dN x24.fN],.nod [.sl 3 (List.map z8 x24.fItems),dN x24.fN],.sl 3 (List.map z8 x24.fItems),dN (x24.fItems.length:Int),dT (x20.fNext==(x24.fItems.length:Int))] [0,2,5,6,35] (by decide +kernel) Z ?_ Z ?_
 ·iterate 3 refine aB rfl rfl rfl ?_
  refine zq.yes (Want.plain Z) Z (xb (j:=x19) yO 9 hx20 Z Z Z Z) ?_;iterate 3 refine aB rfl rfl rfl ?_
  refine zq.yes (Want.plain Z) Z (zk (zJ (j:=x19) yO 9 hx20 Z Z Z Z) (congrArg eOP (osi hq21))) ?_;iterate 3 refine aB rfl rfl rfl ?_
  refine zq.yes (Want.plain Z) Z (zk (OpR.pure Z) (xh (xX _ _))) ?_;refine aB Z Z Z ?_;exact zq.nil
 show T X _ _ _;obtain⟨t26,ht26,q14⟩:=bS q14;refine zz (fun S'=>∃ y27:Value,S'=⟨[(6,(dN s10.1)),(5,(dP (blk p2))),(2,(dP b2)),(0,.fn (.yield b0) [] [])],[.lp b0 .ready none [14,15] uS uR [(5,(dP b5)),(3,.nod [dP b4]),(2,.nod [(eOP a0),dT a1,dN a2])] 42,.var b1 [dN a3] 3,.var b2 [dN a4] 3,.var b3 [(eOP a5)] 25,.var b4 [.val v6] 264,.var b5 [.val y8] 122,.row v6 (lB a6) 1 5,.var (blk p2) [.val y27] 228,.row y8 (lB s10.2.1) 1 5,.row y27 (List.map yO t26) 3 234],62⟩) (fun _ h=>h) ?_ ?_
 ·rcases z9 ht26 with ⟨c28,ht26⟩|⟨c28,ht26⟩;rotate_left
  ·refine zh Z (beq_eq_false_iff_ne.2 c28) ?_;refine T.skip ?_;obtain rfl:=osi ht26;exact⟨_,Gst.only [0,2,5,6] Z,y9,Z⟩
  refine zi Z (beq_iff_eq.2 c28) ?_;refine T.region ?_;obtain⟨x29,hx29,ht26⟩:=bS ht26;refine TL.op (OpR.call [7,9] fn150 (wZ hx29) Z Z Z (fun _=>Z)) Z (fun w30=>?_);refine TL.nil ?_;obtain rfl:=osi ht26;exact⟨_,Gst.only [0,2,5,6] Z,(vn w30 0),Z⟩
 rintro _ ⟨y27,rfl⟩;show T X _ _ _;refine aS ?_;obtain⟨x31,hx31,q14⟩:=bS q14;refine z6 (OpR.call [7,9] fn149 (yT hx31) Z Z Z (fun _=>Z)) Z ?_;refine aA Z Z ?_;refine aN Z ?_;refine T.seq ?_;refine T.seq ?_;obtain⟨x32,hx32,q14⟩:=bS q14;obtain⟨q33,hq33,q14⟩:=bS q14;rcases q33 with _|z34
 ·dsimp only at q14;exact (by cases q14)
 dsimp only at q14;obtain⟨x36,hx36,q14⟩:=bS q14;rw[xk hx36] at hq33;obtain⟨x38,hx38,q14⟩:=bS q14;obtain⟨x39,hx39,q14⟩:=bS q14;refine yx zW (fun env37=>[.fn (.yield b0) [] [],dN s10.1,.val (.pointer (some ⟨blk y27,x31.toNat*3,none⟩)),.val (.pointer (some ⟨blk y27,x31.toNat*3,none⟩)),.val (.pointer (some ⟨blk y27,x31.toNat*3,none⟩)),.nod [.sl 1 (List.map eNP x36.fKids),.sl 3 (List.map z8 x36.fItems),dN x36.fN],.nod [.sl 1 (List.map eNP x36.fKids),.sl 3 (List.map z8 x36.fItems),dN x36.fN],.nod [.sl 3 (List.map z8 x36.fItems),dN x36.fN],.sl 3 (List.map z8 x36.fItems),.val (.pointer (some ⟨blk y27,x31.toNat*3,none⟩)),.val (.pointer (some ⟨blk y27,x31.toNat*3,none⟩)),.val (.pointer (some ⟨blk y27,x31.toNat*3+2,none⟩)),dN x32.fNext,.nod [.sl 5 (List.map zo x38.fCells),dN x38.fEnd,dT x38.fHidden],.agg [.sl 5 (List.map zo x38.fCells),dN x38.fEnd,dT x38.fHidden],dT true,dT false]) (fun D env37=>[.lp b0 .ready none [14,15] uS uR [(5,(dP b5)),(3,.nod [dP b4]),(2,.nod [(eOP a0),dT a1,dN a2])] 42,.var b1 [dN a3] 3,.var b2 [dN a4] 3,.var b3 [(eOP a5)] 25,.var b4 [.val v6] 264,(bif D 15 then .var b5 [.val (vn (env37 15) 0)] 122 else .var b5 [.val y8] 122),.row v6 (lB a6) 1 5,.var (blk p2) [.val y27] 228,(bif D 15 then .row (vn (env37 15) 0) (lB x39) 1 5 else .row y8 (lB s10.2.1) 1 5),.row y27 (List.map yO t26) 3 234]) [0,0,0,4,12,28,60,124,252,0,512,1536,3584,8188,16380,32767,65535] [0,2,5,6,8,54] _ (by decide +kernel) (by decide +kernel) (fun _=>Z) (fun _=>Z) ?_ (fun _=>Z) (fun _=>Z) ?_;rotate_left
 ·intro env37;show T X _ _ _;refine zh Z Z ?_;refine aK Z ?_;refine T.region ?_;iterate 3 refine aA rfl rfl ?_
  refine z6 (xb (j:=x31) yO 9 hx32 Z Z Z Z) Z ?_;iterate 3 refine aA rfl rfl ?_
  refine zy (tc (j:=x31) yO (⟨x32.fN,x32.fFirst,w64 (x32.fNext+1)⟩:wFr) 9 hx32 Z Z Z Z Z Z Z Z Z) ?_;refine aN Z ?_;refine T.region ?_;iterate 3 refine aA rfl rfl ?_
  refine TL.nil ?_;obtain rfl:=osi q14;exact⟨m12,Nat.lt_succ_self _,_,Gst.only [0,2,5,6] Z,(vn (env37 15) 0),y27,(w64 (s10.1+1),x39,(t26.set x31.toNat (⟨x32.fN,x32.fFirst,w64 (x32.fNext+1)⟩:wFr))),Z,i15⟩
 iterate 5 refine aC ?_
 refine oT (.nod [.sl 1 (List.map eNP x36.fKids),.sl 3 (List.map z8 x36.fItems),dN x36.fN]) (fun _ _=>zk (zJ (j:=x31) yO 9 hx32 Z Z Z Z) (congrArg eOP (osi hq33))) ?_;iterate 6 refine aC ?_
 refine oT ((dN x32.fNext)) (fun _ _=>xb (j:=x31) yO 9 hx32 Z Z Z Z) ?_;refine oT (.nod [.sl 5 (List.map zo x38.fCells),dN x38.fEnd,dT x38.fHidden]) (fun _ _=>zp z8 hx38 Z Z Z Z Z) ?_;refine aC ?_;refine zj true ?_ (fun D hA env37 x j hj hD=>match j,hj,hD with|0,_,_=>Z|1,_,_=>Z|2,_,_=>Z|3,_,_=>Z|4,_,_=>Z|5,_,_=>Z|6,_,_=>Z|7,_,_=>Z|8,_,_=>Z|9,_,_=>Z|10,_,_=>Z|11,_,_=>Z|12,_,_=>Z|13,_,_=>Z|14,_,_=>Z|15,hj,_=>absurd Z hj|16,_,_=>Z|_+17,_,_=>Z) ?_
 ·intro D env37 hA;exact zI [(15,false)] ⟨hA.me,trivial⟩ (Want.plain Z) (OpR.callY [0,4,5,6,8] Z (qA hx39) Z Z Z (fun _=>Z)) (fun x=>Z) (fun x=>Z)
 refine aC ?_;exact trivial
noncomputable def sV (a0:grid_Grid) (a1:List UInt8):Option (List UInt8):=
 bnd (xg a0) fun x3=>
 bnd (xU a0.fRows 0 x3) fun x4=>
 bnd (xc a0.fRows.fRoot a0.fTail a0.fEnd x4.1 x4.2.1 x4.2.2 a1) fun x6=>
 some x6
theorem grid_Grid_Save_c {a0:grid_Grid} {a1:List UInt8} {b0:Nat} {v1:Value} {res:(List UInt8)} (h0:sV a0 a1=some res):zn X 69 [.agg [(eOP a0.fRows.fRoot),dT a0.fTail,dN a0.fEnd],dP b0] [.var b0 [.val v1] 264,.row v1 (lB a1) 1 5] (fun x=>.sl 1 (lB res)) (fun x=>[.var b0 [.val v1] 264,.row v1 (lB a1) 1 5]):=by
 unfold sV at h0;refine zg (X:=X) Z Tryz.func69 Z Z Tryz.ntmps69 Z Z ?_;refine aS ?_;refine z6 (zD Z Z) Z ?_;refine z6 (zD Z Z) Z ?_;refine aA Z Z ?_;refine aN Z ?_;refine aS ?_;refine TL.op (OpR.alloc Z Z (fun _=>Z)) Z (fun p1=>?_);refine aN Z ?_;refine T.seq ?_;refine T.seq ?_;obtain⟨x3,hx3,h0⟩:=bS h0;obtain⟨x4,hx4,h0⟩:=bS h0;refine yx zW (fun env2=>[.nod [(eOP a0.fRows.fRoot),dT a0.fTail,dN a0.fEnd],.agg [(eOP a0.fRows.fRoot)],.agg [(eOP a0.fRows.fRoot),dT a0.fTail,dN a0.fEnd],dN x3,.fn (.func 146) [] [dP (blk (vn (env2 4) 0)),dP (blk (vn (env2 4) 1)),dP (blk (vn (env2 4) 2))]]) (fun D env2=>[.var b0 [.val v1] 264,.row v1 (lB a1) 1 5,.var (blk p1) [.val (.slice none 0 0)] 122]++(bif D 4 then [.var (blk (vn (env2 4) 0)) [dN x4.1] 3] else [])++(bif D 4 then [.var (blk (vn (env2 4) 1)) [dN x4.2.1] 3] else [])++(bif D 4 then [.var (blk (vn (env2 4) 2)) [(eOP x4.2.2)] 25] else [])) [0,1,0,4,15] [2,3,4,5,13] _ (by decide +kernel) (by decide +kernel) (fun _=>Z) (fun _=>Z) ?_ (fun _=>Z) (fun _=>Z) ?_;rotate_left
 ·intro env2;show T X _ _ _;refine T.block ?_;obtain⟨x6,hx6,h0⟩:=bS h0;refine T.rangeN (A:=uS) (B:=uR) [2,3,5] [3,4,5,0,2,1] (.inl Z) Z Z Z Z Z fn146 Z Z (fun l5=>(rl hx6)) (fun _=>Z) (fun w7=>?_);show T X _ _ _;refine aS ?_;refine z6 (z7 2 Z Z Z Z) Z ?_;refine aA Z Z ?_;refine aN Z ?_;refine T.ret ?_;obtain rfl:=osi h0;exact zC (ks:=[0,1]) (Gst.trans (Gst.only [4] Z) (Gst.trans (zA 6 Z Z (ReS.cons (Re.base .all) ReS.nil) (ReO.same (ReO.same (ReO.var (ReL.cons (Re.base .all) ReL.nil) (ReO.same (ReO.same (ReO.same (ReO.same ReO.nil)))))))) (Gst.pick [0,1] Z Z))) undef (cT Z ResL.nil) Z Z Z Z
 iterate 3 refine aC ?_
 refine oT ((dN x3)) (fun _ _=>zf fn22 (wV hx3) Z) ?_;refine zj true ?_ (fun D hA env2 x j hj hD=>match j,hj,hD with|0,_,_=>Z|1,_,_=>Z|2,_,_=>Z|3,_,_=>Z|4,hj,_=>absurd Z hj|_+5,_,_=>Z) ?_
 ·intro D env2 hA;exact zI [(4,false)] ⟨hA.me,trivial⟩ (Want.plain Z) (OpR.call [] fn80 (uo hx4) Z Z Z (fun _=>Z)) (fun x=>Z) (fun x=>Z)
 exact trivial
noncomputable def xJ.l1 (a0:List (List row_Row)) (s2:Int × Int):Option (Lp (Int × Int) Int):=
 if s2.2<(a0.length:Int) then
 bnd (idx a0 s2.2) fun x11=>
 some (Lp.next (w64 (s2.1+(x11.length:Int)),w64 (s2.2+1)))
else
 some (Lp.done s2.1)
noncomputable def xJ (a0:List (List row_Row)):Option Int:=
 bnd (loop (xJ.l1 a0) (0,0):Option Int) fun t1=>
 some t1
theorem qy {a0:List (List row_Row)} {res:Int} (h0:xJ a0=some res):zn X 216 [.sl 1 (List.map xP a0)] [] (fun x=>(dN res)) (fun x=>[]):=by
 unfold xJ at h0;refine zg (X:=X) Z Tryz.func216 Z Z Tryz.ntmps216 Z Z ?_;refine aS ?_;refine aA Z Z ?_;refine aN Z ?_;refine aS ?_;refine aA Z Z ?_;refine aN Z ?_;refine T.seq ?_;refine aS ?_;refine aA Z Z ?_;refine z6 (zk (OpR.pure Z) (xh (xX _ _))) Z ?_;refine aA Z Z ?_;refine aN Z ?_;obtain⟨t1,ht1,h0⟩:=bS h0;refine zz (fun S'=>S'=⟨[(3,(dN t1)),(2,(dN 0))],[],18⟩) (fun _ h=>h) ?_ ?_;rotate_left
 ·rintro _ rfl;show T X _ _ _;refine aS ?_;iterate 2 refine aA rfl rfl ?_
  refine aN Z ?_;refine T.ret ?_;obtain rfl:=osi h0;exact rO [] [2] Z undef (cT Z ResL.nil) Z Z Z Z
 refine T.block ?_;obtain⟨n3,n8⟩:=zw ht1;refine T.loop (fun n S'=>∃ S'',Gst S' S''∧∃ s2:Int × Int,S''=⟨[(8,(dN s2.2)),(7,(dN (a0.length:Int))),(6,.sl 1 (List.map xP a0)),(3,(dN s2.1)),(2,(dN 0))],[],18⟩∧wc (xJ.l1 a0) n s2=some t1) n3 ?_ ?_
 ·exact⟨_,Gst.only [2,3,6,7,8] Z,(0,0),Z,n8⟩
 rintro n3 _ ⟨_,g,s2,rfl,i7⟩;refine T.ghost g ?_;obtain⟨m4,q5,rfl,q6,i7⟩:=zx i7;unfold xJ.l1 at q6;refine aS ?_;refine aA Z Z ?_;refine aN Z ?_;refine T.seq ?_;rcases z9 q6 with ⟨c10,q6⟩|⟨c10,q6⟩;rotate_left
 ·refine zh Z (eF c10) ?_;refine T.exit ?_;obtain rfl:=osi q6;obtain rfl:_=_:=i7;exact⟨_,Gst.only [2,3] Z,Z⟩
 refine zi Z (eT c10) ?_;refine aK Z ?_;refine T.seq ?_;refine T.block ?_;refine aS ?_;obtain⟨x11,hx11,q6⟩:=bS q6;refine z6 (zp xP hx11 Z Z Z Z Z) Z ?_;iterate 2 refine aA rfl rfl ?_
 refine aN Z ?_;refine T.region ?_;iterate 2 refine aA rfl rfl ?_
 refine z6 (zk (OpR.pure Z) (xh (xX _ _))) Z ?_;iterate 2 refine aA rfl rfl ?_
 refine aN Z ?_;refine T.region ?_;iterate 2 refine aA rfl rfl ?_
 refine TL.nil ?_;obtain rfl:=osi q6;exact⟨m4,Nat.lt_succ_self _,_,Gst.only [2,3,6,7,8] Z,(w64 (s2.1+(x11.length:Int)),w64 (s2.2+1)),Z,i7⟩
noncomputable def vo (a0:merge_run_damier_row_Row) (a1:List merge_run_damier_row_Row) (a2:List order_By) (a3:List UInt8):Option (List merge_run_damier_row_Row):=
 bnd (app 32 a1 [a0]) fun x2=>
 some x2
theorem sO {a0:merge_run_damier_row_Row} {a1:List merge_run_damier_row_Row} {a2:List order_By} {a3:List UInt8} {b0:Nat} {v1:Value} {b2:Nat} {b3:Nat} {b4:Nat} {v5:Value} {res:(List merge_run_damier_row_Row)} (h0:vo a0 a1 a2 a3=some res):zn X 300 [dP b0,.ifc 324 (.agg [.sl 3 (List.map z8 a0.fRest),dN a0.fWhich])] [.var b0 [.val v1,.fn (.func 170) [] [dP b2,dP b3]] 321,.row v1 (List.map za a1) 2 324,.var b2 [.sl 2 (List.map ze a2)] 104,.var b3 [dP b4] 28,.var b4 [.val v5] 264,.row v5 (lB a3) 1 5] (fun x=>.tup []) (fun x=>[.var b0 [.val (vn x 0),.fn (.func 170) [] [dP b2,dP b3]] 321,.row (vn x 0) (List.map za res) 2 324,.var b2 [.sl 2 (List.map ze a2)] 104,.var b3 [dP b4] 28,.var b4 [.val v5] 264,.row v5 (lB a3) 1 5]):=by
 unfold vo at h0;refine zg (X:=X) Z Tryz.func300 Z Z Tryz.ntmps300 Z Z ?_;obtain⟨x2,hx2,h0⟩:=bS h0;refine yx zW (fun env1=>[dP b0,dP b0,dP b0,dP b0,.val v1,.ifc 324 (.agg [.sl 3 (List.map z8 a0.fRest),dN a0.fWhich]),.agg [.sl 3 (List.map z8 a0.fRest),dN a0.fWhich],.sl 2 (List.map za [a0]),.val (env1 8),dP b0,dP b0,.dead]) (fun D env1=>[(bif D 11 then .var b0 [.val (env1 8),.fn (.func 170) [] [dP b2,dP b3]] 321 else .var b0 [.val v1,.fn (.func 170) [] [dP b2,dP b3]] 321),(bif D 8 then .row (env1 8) (List.map za x2) 2 324 else .row v1 (List.map za a1) 2 324),.var b2 [.sl 2 (List.map ze a2)] 104,.var b3 [dP b4] 28,.var b4 [.val v5] 264,.row v5 (lB a3) 1 5]) [0,0,2,6,14,0,32,96,254,511,1023,2047] [] _ (by decide +kernel) (by decide +kernel) (fun _=>Z) (fun _=>Z) ?_ (fun _=>Z) (fun _=>Z) ?_;rotate_left
 ·intro env1;obtain rfl:=osi h0;exact xj (ks:=[0,1,2,3,4,5]) (Gst.only [] Z) (.tuple #[(env1 8)]) ResL.nil Z Z Z Z
 iterate 4 refine aC ?_
 refine zj true ?_ (fun _ _ _ _ _ _ _=>Z) ?_
 ·intro D env1 hA;have e8:D 8=false:=hA.no 8 _ rfl rfl;have e11:D 11=false:=hA.no 11 _ rfl rfl;exact zI [(8,false),(11,false)] ⟨e8,e11,trivial⟩ (Want.plain Z) (z7 0 Z Z Z Z) (fun x=>Z) (fun x=>Z)
 refine aC ?_;refine oT (.agg [.sl 3 (List.map z8 a0.fRest),dN a0.fWhich]) (fun _ _=>OpR.assert Z Z Z) ?_;refine oT (.sl 2 (List.map za [a0])) (fun _ _=>yC Z Z Z Z Z Z Z) ?_;refine zj true ?_ (fun D hA env1 x j hj hD=>match j,hj,hD with|0,_,_=>Z|1,_,_=>Z|2,_,_=>Z|3,_,_=>Z|4,_,_=>Z|5,_,_=>Z|6,_,_=>Z|7,_,_=>Z|8,hj,_=>absurd Z hj|9,_,_=>Z|10,_,_=>Z|11,_,_=>Z|_+12,_,_=>Z) ?_
 ·intro D env1 hA;have e11:D 11=false:=hA.no 11 _ rfl rfl;exact zI [(11,false),(8,false)] ⟨e11,hA.me,trivial⟩ (Want.plain Z) (zH (m:=[a0]) za 1 hx2 Z Z Z Z Z Z Z Z Z (fun _=>Z)) (fun x=>Z) (fun x=>Z)
 iterate 2 refine aC ?_
 refine zj true ?_ (fun _ _ _ _ _ _ _=>Z) ?_
 ·intro D env1 hA;have e8:D 8=true:=hA.yes 8 _ rfl rfl;exact zI [(8,true),(11,false)] ⟨e8,hA.me,trivial⟩ (Want.plain Z) (OpR.store 0 Z Z Z Z Z Z Z Z) (fun x=>Z) (fun x=>Z)
 exact trivial
noncomputable def xF (a0:List merge_run_damier_row_Row) (a1:List order_By) (a2:List UInt8):Option Int:=
 some (a0.length:Int)
theorem wy {a0:List merge_run_damier_row_Row} {a1:List order_By} {a2:List UInt8} {b0:Nat} {v1:Value} {b2:Nat} {b3:Nat} {b4:Nat} {v5:Value} {res:Int} (h0:xF a0 a1 a2=some res):zn X 242 [dP b0] [.var b0 [.val v1,.fn (.func 170) [] [dP b2,dP b3]] 321,.row v1 (List.map za a0) 2 324,.var b2 [.sl 2 (List.map ze a1)] 104,.var b3 [dP b4] 28,.var b4 [.val v5] 264,.row v5 (lB a2) 1 5] (fun x=>(dN res)) (fun x=>[.var b0 [.val v1,.fn (.func 170) [] [dP b2,dP b3]] 321,.row v1 (List.map za a0) 2 324,.var b2 [.sl 2 (List.map ze a1)] 104,.var b3 [dP b4] 28,.var b4 [.val v5] 264,.row v5 (lB a2) 1 5]):=by
 unfold xF at h0;refine zg (X:=X) Z Tryz.func242 Z Z Tryz.ntmps242 Z Z ?_;refine aS ?_;refine aA Z Z ?_;refine aN Z ?_;refine aS ?_;iterate 3 refine aA rfl rfl ?_
 refine z6 (z7 0 Z Z Z Z) Z ?_;refine z6 (yz za 1 Z Z Z Z) Z ?_;refine aA Z Z ?_;refine aN Z ?_;refine T.ret ?_;obtain rfl:=osi h0;exact rO [0,1,2,3,4,5] [2] Z undef (cT Z ResL.nil) Z Z Z Z
noncomputable def xW (a0:Int) (a1:Int) (a2:List merge_run_damier_row_Row) (a3:List order_By) (a4:List UInt8):Option Bool:=
 bnd (idx a2 a0) fun x2=>
 bnd (idx a2 a1) fun x3=>
 bnd (idx x2.fRest 0) fun x5=>
 bnd (idx x3.fRest 0) fun x6=>
 bnd (yi x5 x6 a3 a4) fun x7=>
 if x7=0 then
 some (decide (x2.fWhich<x3.fWhich))
else
 some (decide (x7<0))
theorem vp {a0:Int} {a1:Int} {a2:List merge_run_damier_row_Row} {a3:List order_By} {a4:List UInt8} {b0:Nat} {v1:Value} {b2:Nat} {b3:Nat} {b4:Nat} {v5:Value} {res:Bool} (h0:xW a0 a1 a2 a3 a4=some res):zn X 298 [dP b0,dN a0,dN a1] [.var b0 [.val v1,.fn (.func 170) [] [dP b2,dP b3]] 321,.row v1 (List.map za a2) 2 324,.var b2 [.sl 2 (List.map ze a3)] 104,.var b3 [dP b4] 28,.var b4 [.val v5] 264,.row v5 (lB a4) 1 5] (fun x=>(dT res)) (fun x=>[.var b0 [.val v1,.fn (.func 170) [] [dP b2,dP b3]] 321,.row v1 (List.map za a2) 2 324,.var b2 [.sl 2 (List.map ze a3)] 104,.var b3 [dP b4] 28,.var b4 [.val v5] 264,.row v5 (lB a4) 1 5]):=by
 unfold xW at h0;refine zg (X:=X) Z Tryz.func298 Z Z Tryz.ntmps298 Z Z ?_;refine aS ?_;refine aA Z Z ?_;refine aN Z ?_;refine T.seq ?_;obtain⟨x2,hx2,h0⟩:=bS h0;obtain⟨x3,hx3,h0⟩:=bS h0;refine yx zW (fun env1=>[dP b0,dP b0,dP b0,.val v1,dN a0,.val (.pointer (some ⟨blk v1,a0.toNat*2,none⟩)),.agg [.sl 3 (List.map z8 x2.fRest),dN x2.fWhich],dP b0,dP b0,dP b0,.val v1,dN a1,.val (.pointer (some ⟨blk v1,a1.toNat*2,none⟩)),.agg [.sl 3 (List.map z8 x3.fRest),dN x3.fWhich],dP (blk (env1 14)),dP (blk (env1 15)),.dead,.dead]) (fun D env1=>[.var b0 [.val v1,.fn (.func 170) [] [dP b2,dP b3]] 321,.row v1 (List.map za a2) 2 324,.var b2 [.sl 2 (List.map ze a3)] 104,.var b3 [dP b4] 28,.var b4 [.val v5] 264,.row v5 (lB a4) 1 5]++(bif D 14 then [(bif D 16 then .var (blk (env1 14)) [.sl 3 (List.map z8 x2.fRest),dN x2.fWhich] 324 else .var (blk (env1 14)) [.val (.slice none 0 0),dN 0] 324)] else [])++(bif D 15 then [(bif D 17 then .var (blk (env1 15)) [.sl 3 (List.map z8 x3.fRest),dN x3.fWhich] 324 else .var (blk (env1 15)) [.val (.slice none 0 0),dN 0] 324)] else [])) [0,1,3,7,0,31,63,0,128,384,896,0,3968,8064,0,0,49279,131071] [0,6,7,8] _ (by decide +kernel) (by decide +kernel) (fun _=>Z) (fun _=>Z) ?_ (fun _=>Z) (fun _=>Z) ?_;rotate_left
 ·intro env1;show T X _ _ _;refine T.seq ?_;refine T.seq ?_;obtain⟨x5,hx5,h0⟩:=bS h0;obtain⟨x6,hx6,h0⟩:=bS h0;obtain⟨x7,hx7,h0⟩:=bS h0;refine yo zW [dP b0,dP b0,.val (.pointer (some ⟨b0,1,none⟩)),.fn (.func 170) [] [dP b2,dP b3],dP (blk (env1 14)),.sl 3 (List.map z8 x2.fRest),.nod [.sl 5 (List.map zo x5.fCells),dN x5.fEnd,dT x5.fHidden],.agg [.sl 5 (List.map zo x5.fCells),dN x5.fEnd,dT x5.fHidden],dP (blk (env1 15)),.sl 3 (List.map z8 x3.fRest),.nod [.sl 5 (List.map zo x6.fCells),dN x6.fEnd,dT x6.fHidden],.agg [.sl 5 (List.map zo x6.fCells),dN x6.fEnd,dT x6.fHidden],dN x7,dN x7] [6,7,8,9] (by decide +kernel) Z ?_ Z ?_
  ·iterate 3 refine aB rfl rfl rfl ?_
   refine zq.yes (Want.plain Z) Z (z7 0 Z Z Z Z) ?_;refine aB Z Z Z ?_;refine zq.yes (Want.plain Z) Z (z7 6 Z Z Z Z) ?_;refine zq.yes (Want.plain Z) Z (zp z8 hx5 Z Z Z Z Z) ?_;iterate 2 refine aB rfl rfl rfl ?_
   refine zq.yes (Want.plain Z) Z (z7 7 Z Z Z Z) ?_;refine zq.yes (Want.plain Z) Z (zp z8 hx6 Z Z Z Z Z) ?_;refine aB Z Z Z ?_;refine zq.yes (Want.plain Z) Z (ux [2,3,4,5] Z fn170 (vR hx7) Z Z Z (fun _=>Z)) ?_;refine aB Z Z Z ?_;exact zq.nil
  show T X _ _ _;refine aS ?_;iterate 2 refine aA rfl rfl ?_
  refine aN Z ?_;rcases z9 h0 with ⟨c8,h0⟩|⟨c8,h0⟩;rotate_left
  ·refine zi Z (yd (beq_eq_false_iff_ne.2 c8)) ?_;refine aS ?_;iterate 3 refine aA rfl rfl ?_
   refine aN Z ?_;refine T.ret ?_;obtain rfl:=osi h0;exact rP [0,1,2,3,4,5] [6] [0,1,2,3,4,5] Z Z Z undef (cT Z ResL.nil) Z Z Z Z
  refine zh Z (zS (beq_iff_eq.2 c8)) ?_;refine aK Z ?_;refine aS ?_;refine aA Z Z ?_;refine z6 (z7 6 Z Z Z Z) Z ?_;refine aA Z Z ?_;refine z6 (z7 7 Z Z Z Z) Z ?_;iterate 2 refine aA rfl rfl ?_
  refine aN Z ?_;refine T.ret ?_;obtain rfl:=osi h0;exact rP [0,1,2,3,4,5] [6] [0,1,2,3,4,5] Z Z Z undef (cT Z ResL.nil) Z Z Z Z
 iterate 3 refine aC ?_
 refine oT (.val v1) (fun _ _=>z7 0 Z Z Z Z) ?_;refine aC ?_;refine oT (.val (.pointer (some ⟨blk v1,a0.toNat*2,none⟩))) (fun _ _=>zK za 1 hx2 Z Z Z Z Z Z Z) ?_;refine oT (.agg [.sl 3 (List.map z8 x2.fRest),dN x2.fWhich]) (fun _ _=>zJ (j:=a0) za 1 hx2 Z Z Z Z) ?_;iterate 3 refine aC ?_
 refine oT (.val v1) (fun _ _=>z7 0 Z Z Z Z) ?_;refine aC ?_;refine oT (.val (.pointer (some ⟨blk v1,a1.toNat*2,none⟩))) (fun _ _=>zK za 1 hx3 Z Z Z Z Z Z Z) ?_;refine oT (.agg [.sl 3 (List.map z8 x3.fRest),dN x3.fWhich]) (fun _ _=>zJ (j:=a1) za 1 hx3 Z Z Z Z) ?_;refine zj true ?_ (fun D hA env1 x j hj hD=>match j,hj,hD with|0,_,_=>Z|1,_,_=>Z|2,_,_=>Z|3,_,_=>Z|4,_,_=>Z|5,_,_=>Z|6,_,_=>Z|7,_,_=>Z|8,_,_=>Z|9,_,_=>Z|10,_,_=>Z|11,_,_=>Z|12,_,_=>Z|13,_,_=>Z|14,hj,_=>absurd Z hj|15,_,_=>Z|16,_,_=>Z|17,_,_=>Z|_+18,_,_=>Z) ?_
 ·intro D env1 hA;have e16:D 16=false:=hA.no 16 _ rfl rfl;have e17:D 17=false:=hA.no 17 _ rfl rfl;rcases Bool.eq_false_or_eq_true (D 15) with e15|e15;rotate_left
  ·exact zI [(16,false),(17,false),(15,false),(14,false)] ⟨e16,e17,e15,hA.me,trivial⟩ (Want.plain Z) (OpR.alloc Z Z (fun _=>Z)) (fun x=>Z) (fun x=>Z)
  exact zI [(16,false),(17,false),(15,true),(14,false)] ⟨e16,e17,e15,hA.me,trivial⟩ (Want.plain Z) (OpR.pick [0,1,2,3,4,5,7,6] (OpR.alloc Z Z (fun _=>Z)) (fun _=>Z) Z) (fun x=>Z) (fun x=>Z)
 refine zj true ?_ (fun D hA env1 x j hj hD=>match j,hj,hD with|0,_,_=>Z|1,_,_=>Z|2,_,_=>Z|3,_,_=>Z|4,_,_=>Z|5,_,_=>Z|6,_,_=>Z|7,_,_=>Z|8,_,_=>Z|9,_,_=>Z|10,_,_=>Z|11,_,_=>Z|12,_,_=>Z|13,_,_=>Z|14,_,_=>Z|15,hj,_=>absurd Z hj|16,_,_=>Z|17,_,_=>Z|_+18,_,_=>Z) ?_
 ·intro D env1 hA;have e16:D 16=false:=hA.no 16 _ rfl rfl;have e17:D 17=false:=hA.no 17 _ rfl rfl;rcases Bool.eq_false_or_eq_true (D 14) with e14|e14
  ·exact zI [(16,false),(17,false),(14,true),(15,false)] ⟨e16,e17,e14,hA.me,trivial⟩ (Want.plain Z) (OpR.alloc Z Z (fun _=>Z)) (fun x=>Z) (fun x=>Z)
  exact zI [(16,false),(17,false),(14,false),(15,false)] ⟨e16,e17,e14,hA.me,trivial⟩ (Want.plain Z) (OpR.alloc Z Z (fun _=>Z)) (fun x=>Z) (fun x=>Z)
 refine zj true ?_ (fun _ _ _ _ _ _ _=>Z) ?_
 ·intro D env1 hA;have e14:D 14=true:=hA.yes 14 _ rfl rfl;have e15:D 15=true:=hA.yes 15 _ rfl rfl;have e17:D 17=false:=hA.no 17 _ rfl rfl;exact zI [(14,true),(15,true),(17,false),(16,false)] ⟨e14,e15,e17,hA.me,trivial⟩ (Want.plain Z) (OpR.store 6 Z Z Z Z Z Z Z Z) (fun x=>Z) (fun x=>Z)
 refine zj true ?_ (fun _ _ _ _ _ _ _=>Z) ?_
 ·intro D env1 hA;have e14:D 14=true:=hA.yes 14 _ rfl rfl;have e15:D 15=true:=hA.yes 15 _ rfl rfl;have e16:D 16=true:=hA.yes 16 _ rfl rfl;exact zI [(14,true),(15,true),(16,true),(17,false)] ⟨e14,e15,e16,hA.me,trivial⟩ (Want.plain Z) (OpR.store 7 Z Z Z Z Z Z Z Z) (fun x=>Z) (fun x=>Z)
 exact trivial
noncomputable def xV (a0:Int) (a1:Int) (a2:List merge_run_damier_row_Row) (a3:List order_By) (a4:List UInt8):Option (List merge_run_damier_row_Row):=
 bnd (idx a2 a1) fun x2=>
 bnd (idx a2 a0) fun x3=>
 bnd (idx (a2.set a0.toNat x2) a1) fun x4=>
 some ((a2.set a0.toNat x2).set a1.toNat x3)
theorem vm {a0:Int} {a1:Int} {a2:List merge_run_damier_row_Row} {a3:List order_By} {a4:List UInt8} {b0:Nat} {v1:Value} {b2:Nat} {b3:Nat} {b4:Nat} {v5:Value} {res:(List merge_run_damier_row_Row)} (h0:xV a0 a1 a2 a3 a4=some res):zn X 301 [dP b0,dN a0,dN a1] [.var b0 [.val v1,.fn (.func 170) [] [dP b2,dP b3]] 321,.row v1 (List.map za a2) 2 324,.var b2 [.sl 2 (List.map ze a3)] 104,.var b3 [dP b4] 28,.var b4 [.val v5] 264,.row v5 (lB a4) 1 5] (fun x=>.tup []) (fun x=>[.var b0 [.val v1,.fn (.func 170) [] [dP b2,dP b3]] 321,.row v1 (List.map za res) 2 324,.var b2 [.sl 2 (List.map ze a3)] 104,.var b3 [dP b4] 28,.var b4 [.val v5] 264,.row v5 (lB a4) 1 5]):=by
 unfold xV at h0;refine zg (X:=X) Z Tryz.func301 Z Z Tryz.ntmps301 Z Z ?_;obtain⟨x2,hx2,h0⟩:=bS h0;obtain⟨x3,hx3,h0⟩:=bS h0;obtain⟨x4,hx4,h0⟩:=bS h0;refine yx zW (fun env1=>[dP b0,dP b0,dP b0,.val v1,dN a0,dP b0,dP b0,dP b0,.val v1,dN a1,dP b0,dP b0,dP b0,.val v1,dN a1,.val (.pointer (some ⟨blk v1,a1.toNat*2,none⟩)),.agg [.sl 3 (List.map z8 x2.fRest),dN x2.fWhich],dP b0,dP b0,dP b0,.val v1,dN a0,.val (.pointer (some ⟨blk v1,a0.toNat*2,none⟩)),.agg [.sl 3 (List.map z8 x3.fRest),dN x3.fWhich],.val (.pointer (some ⟨blk v1,a0.toNat*2,none⟩)),.dead,.val (.pointer (some ⟨blk v1,a1.toNat*2,none⟩)),.dead]) (fun D env1=>[.var b0 [.val v1,.fn (.func 170) [] [dP b2,dP b3]] 321,(bif D 27 then .row v1 (List.map za ((a2.set a0.toNat x2).set a1.toNat x3)) 2 324 else bif D 25 then .row v1 (List.map za (a2.set a0.toNat x2)) 2 324 else .row v1 (List.map za a2) 2 324),.var b2 [.sl 2 (List.map ze a3)] 104,.var b3 [dP b4] 28,.var b4 [.val v5] 264,.row v5 (lB a4) 1 5]) [0,1,3,7,0,0,32,96,224,0,0,1024,3072,7168,0,31744,64512,0,131072,393216,917504,0,4063232,8257536,16776703,33553919,67108863,134217727] [] _ (by decide +kernel) (by decide +kernel) (fun _=>Z) (fun _=>Z) ?_ (fun _=>Z) (fun _=>Z) ?_;rotate_left
 ·intro env1;obtain rfl:=osi h0;exact xj (ks:=[0,1,2,3,4,5]) (Gst.only [] Z) undef ResL.nil Z Z Z Z
 iterate 3 refine aC ?_
 refine oT (.val v1) (fun _ _=>z7 0 Z Z Z Z) ?_;iterate 4 refine aC ?_
 refine oT (.val v1) (fun _ _=>z7 0 Z Z Z Z) ?_;iterate 4 refine aC ?_
 refine oT (.val v1) (fun _ _=>z7 0 Z Z Z Z) ?_;refine aC ?_;refine zj true ?_ (fun _ _ _ _ _ _ _=>Z) ?_
 ·intro D env1 hA;have e25:D 25=false:=hA.no 25 _ rfl rfl;have e27:D 27=false:=hA.no 27 _ rfl rfl;exact zI [(25,false),(27,false)] ⟨e25,e27,trivial⟩ (Want.plain Z) (zK za 1 hx2 Z Z Z Z Z Z Z) (fun x=>Z) (fun x=>Z)
 refine zj true ?_ (fun _ _ _ _ _ _ _=>Z) ?_
 ·intro D env1 hA;have e25:D 25=false:=hA.no 25 _ rfl rfl;have e27:D 27=false:=hA.no 27 _ rfl rfl;exact zI [(25,false),(27,false)] ⟨e25,e27,trivial⟩ (Want.plain Z) (zJ (j:=a1) za 1 hx2 Z Z Z Z) (fun x=>Z) (fun x=>Z)
 iterate 3 refine aC ?_
 refine oT (.val v1) (fun _ _=>z7 0 Z Z Z Z) ?_;refine aC ?_;refine zj true ?_ (fun _ _ _ _ _ _ _=>Z) ?_
 ·intro D env1 hA;have e25:D 25=false:=hA.no 25 _ rfl rfl;have e27:D 27=false:=hA.no 27 _ rfl rfl;exact zI [(25,false),(27,false)] ⟨e25,e27,trivial⟩ (Want.plain Z) (zK za 1 hx3 Z Z Z Z Z Z Z) (fun x=>Z) (fun x=>Z)
 refine zj true ?_ (fun _ _ _ _ _ _ _=>Z) ?_
 ·intro D env1 hA;have e25:D 25=false:=hA.no 25 _ rfl rfl;have e27:D 27=false:=hA.no 27 _ rfl rfl;exact zI [(25,false),(27,false)] ⟨e25,e27,trivial⟩ (Want.plain Z) (zJ (j:=a0) za 1 hx3 Z Z Z Z) (fun x=>Z) (fun x=>Z)
 refine zj true ?_ (fun _ _ _ _ _ _ _=>Z) ?_
 ·intro D env1 hA;have e25:D 25=false:=hA.no 25 _ rfl rfl;have e27:D 27=false:=hA.no 27 _ rfl rfl;exact zI [(25,false),(27,false)] ⟨e25,e27,trivial⟩ (Want.plain Z) (zK za 1 hx3 Z Z Z Z Z Z Z) (fun x=>Z) (fun x=>Z)
 refine zj true ?_ (fun _ _ _ _ _ _ _=>Z) ?_
 ·intro D env1 hA;have e27:D 27=false:=hA.no 27 _ rfl rfl;exact zI [(27,false),(25,false)] ⟨e27,hA.me,trivial⟩ (Want.plain Z) (yA (j:=a0) za x2 1 hx3 Z Z Z Z Z Z Z Z Z) (fun x=>Z) (fun x=>Z)
 refine zj true ?_ (fun _ _ _ _ _ _ _=>Z) ?_
 ·intro D env1 hA;have e25:D 25=true:=hA.yes 25 _ rfl rfl;have e27:D 27=false:=hA.no 27 _ rfl rfl;exact zI [(25,true),(27,false)] ⟨e25,e27,trivial⟩ (Want.plain Z) (zK za 1 hx4 Z Z Z Z Z Z Z) (fun x=>Z) (fun x=>Z)
 refine zj true ?_ (fun _ _ _ _ _ _ _=>Z) ?_
 ·intro D env1 hA;have e25:D 25=true:=hA.yes 25 _ rfl rfl;exact zI [(25,true),(27,false)] ⟨e25,hA.me,trivial⟩ (Want.plain Z) (yA (j:=a1) za x3 1 hx4 Z Z Z Z Z Z Z Z Z) (fun x=>Z) (fun x=>Z)
 exact trivial
noncomputable def xp.l1 (a2:List order_By) (a3:List UInt8) (s2:Int × (List merge_run_damier_row_Row)):Option (Lp (Int × (List merge_run_damier_row_Row)) (List merge_run_damier_row_Row)):=
 bnd (if (w64 (quo (w64 (s2.1-1)) 1))=s2.1 then
 some true
else
 bnd (xW s2.1 (w64 (quo (w64 (s2.1-1)) 1)) s2.2 a2 a3) fun x12=>
 some (!x12):Option Bool) fun t10=>
 if t10=true then
 some (Lp.done s2.2)
else
 bnd (xV (w64 (quo (w64 (s2.1-1)) 1)) s2.1 s2.2 a2 a3) fun x14=>
 some (Lp.next (w64 (quo (w64 (s2.1-1)) 1),x14))
noncomputable def xp (a0:Int) (a1:List merge_run_damier_row_Row) (a2:List order_By) (a3:List UInt8):Option (List merge_run_damier_row_Row):=
 bnd (loop (xp.l1 a2 a3) (a0,a1):Option (List merge_run_damier_row_Row)) fun t1=>
 some t1
theorem tQ {a0:Int} {a1:List merge_run_damier_row_Row} {a2:List order_By} {a3:List UInt8} {b0:Nat} {v1:Value} {b2:Nat} {b3:Nat} {b4:Nat} {v5:Value} {res:(List merge_run_damier_row_Row)} (h0:xp a0 a1 a2 a3=some res):zn X 264 [.ifc 318 (dP b0),dN a0] [.var b0 [.val v1,.fn (.func 170) [] [dP b2,dP b3]] 321,.row v1 (List.map za a1) 2 324,.var b2 [.sl 2 (List.map ze a2)] 104,.var b3 [dP b4] 28,.var b4 [.val v5] 264,.row v5 (lB a3) 1 5] (fun x=>.tup []) (fun x=>[.var b0 [.val v1,.fn (.func 170) [] [dP b2,dP b3]] 321,.row v1 (List.map za res) 2 324,.var b2 [.sl 2 (List.map ze a2)] 104,.var b3 [dP b4] 28,.var b4 [.val v5] 264,.row v5 (lB a3) 1 5]):=by
 unfold xp at h0;refine zg (X:=X) Z Tryz.func264 Z Z Tryz.ntmps264 Z Z ?_;obtain⟨t1,ht1,h0⟩:=bS h0;refine T.cutN (fun S'=>S'=⟨[],[.var b0 [.val v1,.fn (.func 170) [] [dP b2,dP b3]] 321,.row v1 (List.map za t1) 2 324,.var b2 [.sl 2 (List.map ze a2)] 104,.var b3 [dP b4] 28,.var b4 [.val v5] 264,.row v5 (lB a3) 1 5],23⟩) (fun _ _ g ⟨h,S',ds,g',r⟩=>⟨h,S',ds,Gst.trans g g',r⟩) ?_ ?_;rotate_left
 ·rintro _ rfl;obtain rfl:=osi h0;exact xj (ks:=[0,1,2,3,4,5]) (Gst.only [] Z) undef ResL.nil Z Z Z Z
 refine T.block ?_;obtain⟨n3,n8⟩:=zw ht1;refine T.loop (fun n S'=>∃ S'',Gst S' S''∧∃ s2:Int × (List merge_run_damier_row_Row),S''=⟨[(1,(dN s2.1)),(0,.ifc 318 (dP b0))],[.var b0 [.val v1,.fn (.func 170) [] [dP b2,dP b3]] 321,.row v1 (List.map za s2.2) 2 324,.var b2 [.sl 2 (List.map ze a2)] 104,.var b3 [dP b4] 28,.var b4 [.val v5] 264,.row v5 (lB a3) 1 5],23⟩∧wc (xp.l1 a2 a3) n s2=some t1) n3 ?_ ?_
 ·exact⟨_,Gst.only [0,1] Z,(a0,a1),Z,n8⟩
 rintro n3 _ ⟨_,g,s2,rfl,i7⟩;refine T.ghost g ?_;obtain⟨m4,q5,rfl,q6,i7⟩:=zx i7;unfold xp.l1 at q6;refine T.block ?_;refine aS ?_;iterate 4 refine aA rfl rfl ?_
 refine aN Z ?_;refine T.seq ?_;refine T.seq ?_;obtain⟨t10,ht10,q6⟩:=bS q6;refine zz (fun S'=>S'=⟨[(17,(dT t10)),(4,(dN (w64 (quo (w64 (s2.1-1)) 1)))),(1,(dN s2.1)),(0,.ifc 318 (dP b0))],[.var b0 [.val v1,.fn (.func 170) [] [dP b2,dP b3]] 321,.row v1 (List.map za s2.2) 2 324,.var b2 [.sl 2 (List.map ze a2)] 104,.var b3 [dP b4] 28,.var b4 [.val v5] 264,.row v5 (lB a3) 1 5],23⟩) (fun _ h=>h) ?_ ?_;rotate_left
 ·rintro _ rfl;show T X _ _ _;rcases z9 q6 with ⟨c13,q6⟩|⟨c13,q6⟩
  ·refine zi Z (c13) ?_;refine T.exit ?_;obtain rfl:=osi q6;obtain rfl:_=_:=i7;exact⟨_,Gst.only [] Z,Z⟩
  refine zh Z (eN c13) ?_;refine aK Z ?_;refine aS ?_;iterate 3 refine aA rfl rfl ?_
  obtain⟨x14,hx14,q6⟩:=bS q6;refine z6 (xz [0,1,2,3,4,5] Z mt318_Swap fn301 (vm hx14) Z Z Z (fun _=>Z)) Z ?_;refine aN Z ?_;refine T.region ?_;iterate 2 refine aA rfl rfl ?_
  refine TL.nil ?_;obtain rfl:=osi q6;exact⟨m4,Nat.lt_succ_self _,_,Gst.only [0,1] Z,(w64 (quo (w64 (s2.1-1)) 1),x14),Z,i7⟩
 refine T.region ?_;iterate 4 refine aA rfl rfl ?_
 rcases z9 ht10 with ⟨c11,ht10⟩|⟨c11,ht10⟩
 ·refine TL.off Z Z Z Z (beq_iff_eq.2 c11) Z Z ?_;refine TL.off Z Z Z Z (beq_iff_eq.2 c11) Z Z ?_;refine TL.off Z Z Z Z (beq_iff_eq.2 c11) Z Z ?_;refine TL.off Z Z Z Z (beq_iff_eq.2 c11) Z Z ?_;refine TL.off Z Z Z Z (beq_iff_eq.2 c11) Z Z ?_;refine z6 (zt Z (beq_iff_eq.2 c11) Z) Z ?_;refine TL.nil ?_;obtain rfl:=osi ht10;exact⟨_,Gst.only [0,1,4,17] Z,Z⟩
 refine TL.on Z Z Z Z (beq_eq_false_iff_ne.2 c11) ?_;refine aA Z Z ?_;refine TL.on Z Z Z Z (beq_eq_false_iff_ne.2 c11) ?_;refine aA Z Z ?_;refine TL.on Z Z Z Z (beq_eq_false_iff_ne.2 c11) ?_;refine aA Z Z ?_;refine TL.on Z Z Z Z (beq_eq_false_iff_ne.2 c11) ?_;obtain⟨x12,hx12,ht10⟩:=bS ht10;refine z6 (xz [0,1,2,3,4,5] Z mt318_Less fn298 (vp hx12) Z Z Z (fun _=>Z)) Z ?_;refine TL.on Z Z Z Z (beq_eq_false_iff_ne.2 c11) ?_;refine aA Z Z ?_;refine z6 (zu Z (beq_eq_false_iff_ne.2 c11) Z) Z ?_;refine TL.nil ?_;obtain rfl:=osi ht10;exact⟨_,Gst.only [0,1,4,17] Z,Z⟩
noncomputable def uf (a0:merge_run_damier_row_Row) (a1:List merge_run_damier_row_Row) (a2:List order_By) (a3:List UInt8):Option (List merge_run_damier_row_Row):=
 bnd (vo a0 a1 a2 a3) fun x1=>
 bnd (xF x1 a2 a3) fun x3=>
 bnd (xp (w64 (x3-1)) x1 a2 a3) fun x4=>
 some x4
theorem rL {a0:merge_run_damier_row_Row} {a1:List merge_run_damier_row_Row} {a2:List order_By} {a3:List UInt8} {b0:Nat} {v1:Value} {b2:Nat} {b3:Nat} {b4:Nat} {v5:Value} {res:(List merge_run_damier_row_Row)} (h0:uf a0 a1 a2 a3=some res):zn X 241 [.ifc 318 (dP b0),.ifc 324 (.agg [.sl 3 (List.map z8 a0.fRest),dN a0.fWhich])] [.var b0 [.val v1,.fn (.func 170) [] [dP b2,dP b3]] 321,.row v1 (List.map za a1) 2 324,.var b2 [.sl 2 (List.map ze a2)] 104,.var b3 [dP b4] 28,.var b4 [.val v5] 264,.row v5 (lB a3) 1 5] (fun x=>.tup []) (fun x=>[.var b0 [.val (vn x 0),.fn (.func 170) [] [dP b2,dP b3]] 321,.row (vn x 0) (List.map za res) 2 324,.var b2 [.sl 2 (List.map ze a2)] 104,.var b3 [dP b4] 28,.var b4 [.val v5] 264,.row v5 (lB a3) 1 5]):=by
 unfold uf at h0;refine zg (X:=X) Z Tryz.func241 Z Z Tryz.ntmps241 Z Z ?_;refine aS ?_;iterate 2 refine aA rfl rfl ?_
 obtain⟨x1,hx1,h0⟩:=bS h0;refine TL.op (xz [0,1,2,3,4,5] Z mt318_Push fn300 (sO hx1) Z Z Z (fun _=>Z)) Z (fun w2=>?_);refine aN Z ?_;refine T.region ?_;iterate 2 refine aA rfl rfl ?_
 obtain⟨x3,hx3,h0⟩:=bS h0;refine z6 (xz [0,1,2,3,4,5] Z mt318_Len fn242 (wy hx3) Z Z Z (fun _=>Z)) Z ?_;refine aA Z Z ?_;obtain⟨x4,hx4,h0⟩:=bS h0;refine z6 (OpR.call [0,1,2,3,4,5] fn264 (tQ hx4) Z Z Z (fun _=>Z)) Z ?_;refine TL.nil ?_;obtain rfl:=osi h0;exact xj (ks:=[0,1,2,3,4,5]) (Gst.only [] Z) (.tuple #[(vn w2 0)]) ResL.nil Z Z Z Z
noncomputable def yU.l1 (a1:Int) (a3:List order_By) (a4:List UInt8) (s2:Int × (List merge_run_damier_row_Row)):Option (Lp (Int × (List merge_run_damier_row_Row)) (Int × (List merge_run_damier_row_Row))):=
 bnd (if (w64 ((w64 (2*s2.1))+1))≥a1 then
 some true
else
 some (decide ((w64 ((w64 (2*s2.1))+1))<0)):Option Bool) fun t10=>
 if t10=true then
 some (Lp.done (s2.1,s2.2))
else
 bnd (if (w64 ((w64 ((w64 (2*s2.1))+1))+1))<a1 then
 bnd (xW (w64 ((w64 ((w64 (2*s2.1))+1))+1)) (w64 ((w64 (2*s2.1))+1)) s2.2 a3 a4) fun x15=>
 some x15
else
 some false:Option Bool) fun t13=>
 bnd (if t13=true then
 some (w64 ((w64 ((w64 (2*s2.1))+1))+1))
else
 some (w64 ((w64 (2*s2.1))+1)):Option Int) fun t16=>
 bnd (xW t16 s2.1 s2.2 a3 a4) fun x18=>
 if x18=true then
 bnd (xV s2.1 t16 s2.2 a3 a4) fun x20=>
 some (Lp.next (t16,x20))
else
 some (Lp.done (s2.1,s2.2))
noncomputable def yU (a0:Int) (a1:Int) (a2:List merge_run_damier_row_Row) (a3:List order_By) (a4:List UInt8):Option (Bool × (List merge_run_damier_row_Row)):=
 bnd (loop (yU.l1 a1 a3 a4) (a0,a2):Option (Int × (List merge_run_damier_row_Row))) fun t1=>
 some (decide (t1.1>a0),t1.2)
theorem tn {a0:Int} {a1:Int} {a2:List merge_run_damier_row_Row} {a3:List order_By} {a4:List UInt8} {b0:Nat} {v1:Value} {b2:Nat} {b3:Nat} {b4:Nat} {v5:Value} {res:Bool × (List merge_run_damier_row_Row)} (h0:yU a0 a1 a2 a3 a4=some res):zn X 265 [.ifc 318 (dP b0),dN a0,dN a1] [.var b0 [.val v1,.fn (.func 170) [] [dP b2,dP b3]] 321,.row v1 (List.map za a2) 2 324,.var b2 [.sl 2 (List.map ze a3)] 104,.var b3 [dP b4] 28,.var b4 [.val v5] 264,.row v5 (lB a4) 1 5] (fun x=>(dT res.1)) (fun x=>[.var b0 [.val v1,.fn (.func 170) [] [dP b2,dP b3]] 321,.row v1 (List.map za res.2) 2 324,.var b2 [.sl 2 (List.map ze a3)] 104,.var b3 [dP b4] 28,.var b4 [.val v5] 264,.row v5 (lB a4) 1 5]):=by
 unfold yU at h0;refine zg (X:=X) Z Tryz.func265 Z Z Tryz.ntmps265 Z Z ?_;refine aS ?_;refine aA Z Z ?_;refine aN Z ?_;refine aS ?_;iterate 2 refine aA rfl rfl ?_
 refine aN Z ?_;refine T.seq ?_;obtain⟨t1,ht1,h0⟩:=bS h0;refine zz (fun S'=>S'=⟨[(7,(dN t1.1)),(6,(dT false)),(1,(dN a0))],[.var b0 [.val v1,.fn (.func 170) [] [dP b2,dP b3]] 321,.row v1 (List.map za t1.2) 2 324,.var b2 [.sl 2 (List.map ze a3)] 104,.var b3 [dP b4] 28,.var b4 [.val v5] 264,.row v5 (lB a4) 1 5],48⟩) (fun _ h=>h) ?_ ?_;rotate_left
 ·rintro _ rfl;show T X _ _ _;refine aS ?_;iterate 4 refine aA rfl rfl ?_
  refine aN Z ?_;refine T.ret ?_;obtain rfl:=osi h0;exact rO [0,1,2,3,4,5] [6] Z undef (cT Z ResL.nil) Z Z Z Z
 refine T.block ?_;obtain⟨n3,n8⟩:=zw ht1;refine T.loop (fun n S'=>∃ S'',Gst S' S''∧∃ s2:Int × (List merge_run_damier_row_Row),S''=⟨[(7,(dN s2.1)),(6,(dT false)),(2,(dN a1)),(1,(dN a0)),(0,.ifc 318 (dP b0))],[.var b0 [.val v1,.fn (.func 170) [] [dP b2,dP b3]] 321,.row v1 (List.map za s2.2) 2 324,.var b2 [.sl 2 (List.map ze a3)] 104,.var b3 [dP b4] 28,.var b4 [.val v5] 264,.row v5 (lB a4) 1 5],48⟩∧wc (yU.l1 a1 a3 a4) n s2=some t1) n3 ?_ ?_
 ·exact⟨_,Gst.only [0,1,2,6,7] Z,(a0,a2),Z,n8⟩
 rintro n3 _ ⟨_,g,s2,rfl,i7⟩;refine T.ghost g ?_;obtain⟨m4,q5,rfl,q6,i7⟩:=zx i7;unfold yU.l1 at q6;refine T.block ?_;refine aS ?_;iterate 4 refine aA rfl rfl ?_
 refine aN Z ?_;refine T.seq ?_;refine T.seq ?_;obtain⟨t10,ht10,q6⟩:=bS q6;refine zz (fun S'=>S'=⟨[(21,(dT t10)),(8,(dN (w64 ((w64 (2*s2.1))+1)))),(7,(dN s2.1)),(6,(dT false)),(2,(dN a1)),(1,(dN a0)),(0,.ifc 318 (dP b0))],[.var b0 [.val v1,.fn (.func 170) [] [dP b2,dP b3]] 321,.row v1 (List.map za s2.2) 2 324,.var b2 [.sl 2 (List.map ze a3)] 104,.var b3 [dP b4] 28,.var b4 [.val v5] 264,.row v5 (lB a4) 1 5],48⟩) (fun _ h=>h) ?_ ?_
 ·refine T.region ?_;iterate 4 refine aA rfl rfl ?_
  rcases z9 ht10 with ⟨c11,ht10⟩|⟨c11,ht10⟩
  ·refine TL.off Z Z Z Z (eT c11) Z Z ?_;refine TL.off Z Z Z Z (eT c11) Z Z ?_;refine z6 (zt Z (eT c11) Z) Z ?_;refine TL.nil ?_;obtain rfl:=osi ht10;exact⟨_,Gst.only [0,1,2,6,7,8,21] Z,Z⟩
  refine TL.on Z Z Z Z (eF c11) ?_;refine aA Z Z ?_;refine TL.on Z Z Z Z (eF c11) ?_;refine aA Z Z ?_;refine z6 (zu Z (eF c11) Z) Z ?_;refine TL.nil ?_;obtain rfl:=osi ht10;exact⟨_,Gst.only [0,1,2,6,7,8,21] Z,Z⟩
 rintro _ rfl;show T X _ _ _;rcases z9 q6 with ⟨c12,q6⟩|⟨c12,q6⟩
 ·refine zi Z (c12) ?_;refine T.exit ?_;obtain rfl:=osi q6;obtain rfl:_=_:=i7;exact⟨_,Gst.only [1,6,7] Z,Z⟩
 refine zh Z (eN c12) ?_;refine aK Z ?_;refine aS ?_;iterate 2 refine aA rfl rfl ?_
 refine aN Z ?_;refine T.seq ?_;refine aS ?_;iterate 3 refine aA rfl rfl ?_
 refine aN Z ?_;refine T.seq ?_;obtain⟨t13,ht13,q6⟩:=bS q6;refine zz (fun S'=>S'=⟨[(33,(dT t13)),(10,(dN (w64 ((w64 ((w64 (2*s2.1))+1))+1)))),(9,(dN (w64 ((w64 (2*s2.1))+1)))),(7,(dN s2.1)),(6,(dT false)),(2,(dN a1)),(1,(dN a0)),(0,.ifc 318 (dP b0))],[.var b0 [.val v1,.fn (.func 170) [] [dP b2,dP b3]] 321,.row v1 (List.map za s2.2) 2 324,.var b2 [.sl 2 (List.map ze a3)] 104,.var b3 [dP b4] 28,.var b4 [.val v5] 264,.row v5 (lB a4) 1 5],48⟩) (fun _ h=>h) ?_ ?_
 ·refine T.region ?_;iterate 4 refine aA rfl rfl ?_
  rcases z9 ht13 with ⟨c14,ht13⟩|⟨c14,ht13⟩;rotate_left
  ·refine TL.off Z Z Z Z (eF c14) Z Z ?_;refine TL.off Z Z Z Z (eF c14) Z Z ?_;refine TL.off Z Z Z Z (eF c14) Z Z ?_;refine TL.off Z Z Z Z (eF c14) Z Z ?_;refine z6 (zu Z (eF c14) Z) Z ?_;refine TL.nil ?_;obtain rfl:=osi ht13;exact⟨_,Gst.only [0,1,2,6,7,9,10,33] Z,Z⟩
  refine TL.on Z Z Z Z (eT c14) ?_;refine aA Z Z ?_;refine TL.on Z Z Z Z (eT c14) ?_;refine aA Z Z ?_;refine TL.on Z Z Z Z (eT c14) ?_;refine aA Z Z ?_;refine TL.on Z Z Z Z (eT c14) ?_;obtain⟨x15,hx15,ht13⟩:=bS ht13;refine z6 (xz [0,1,2,3,4,5] Z mt318_Less fn298 (vp hx15) Z Z Z (fun _=>Z)) Z ?_;refine z6 (zt Z (eT c14) Z) Z ?_;refine TL.nil ?_;obtain rfl:=osi ht13;exact⟨_,Gst.only [0,1,2,6,7,9,10,33] Z,Z⟩
 rintro _ rfl;show T X _ _ _;obtain⟨t16,ht16,q6⟩:=bS q6;refine zz (fun S'=>S'=⟨[(9,(dN t16)),(7,(dN s2.1)),(6,(dT false)),(2,(dN a1)),(1,(dN a0)),(0,.ifc 318 (dP b0))],[.var b0 [.val v1,.fn (.func 170) [] [dP b2,dP b3]] 321,.row v1 (List.map za s2.2) 2 324,.var b2 [.sl 2 (List.map ze a3)] 104,.var b3 [dP b4] 28,.var b4 [.val v5] 264,.row v5 (lB a4) 1 5],48⟩) (fun _ h=>h) ?_ ?_
 ·rcases z9 ht16 with ⟨c17,ht16⟩|⟨c17,ht16⟩;rotate_left
  ·refine zh Z (eN c17) ?_;refine T.skip ?_;obtain rfl:=osi ht16;exact⟨_,Gst.only [0,1,2,6,7,9] Z,Z⟩
  refine zi Z (c17) ?_;refine T.region ?_;iterate 2 refine aA rfl rfl ?_
  refine TL.nil ?_;obtain rfl:=osi ht16;exact⟨_,Gst.only [0,1,2,6,7,9] Z,Z⟩
 rintro _ rfl;show T X _ _ _;refine T.seq ?_;refine aS ?_;iterate 3 refine aA rfl rfl ?_
 obtain⟨x18,hx18,q6⟩:=bS q6;refine z6 (xz [0,1,2,3,4,5] Z mt318_Less fn298 (vp hx18) Z Z Z (fun _=>Z)) Z ?_;refine aA Z Z ?_;refine aN Z ?_;rcases z9 q6 with ⟨c19,q6⟩|⟨c19,q6⟩;rotate_left
 ·refine zi Z (yd (eN c19)) ?_;refine T.exit ?_;obtain rfl:=osi q6;obtain rfl:_=_:=i7;exact⟨_,Gst.only [1,6,7] Z,Z⟩
 refine zh Z (zS (c19)) ?_;refine aK Z ?_;refine aS ?_;iterate 3 refine aA rfl rfl ?_
 obtain⟨x20,hx20,q6⟩:=bS q6;refine z6 (xz [0,1,2,3,4,5] Z mt318_Swap fn301 (vm hx20) Z Z Z (fun _=>Z)) Z ?_;refine aN Z ?_;refine T.region ?_;iterate 2 refine aA rfl rfl ?_
 refine TL.nil ?_;obtain rfl:=osi q6;exact⟨m4,Nat.lt_succ_self _,_,Gst.only [0,1,2,6,7] Z,(t16,x20),Z,i7⟩
noncomputable def vM (a0:List merge_run_damier_row_Row) (a1:List order_By) (a2:List UInt8):Option (merge_run_damier_row_Row × (List merge_run_damier_row_Row)):=
 bnd (idx a0 (w64 ((a0.length:Int)-1))) fun x1=>
 bnd (cut a0 0 (w64 ((a0.length:Int)-1))) fun x3=>
 some (x1,x3)
theorem ro {a0:List merge_run_damier_row_Row} {a1:List order_By} {a2:List UInt8} {b0:Nat} {v1:Value} {b2:Nat} {b3:Nat} {b4:Nat} {v5:Value} {res:merge_run_damier_row_Row × (List merge_run_damier_row_Row)} (h0:vM a0 a1 a2=some res):zn X 299 [dP b0] [.var b0 [.val v1,.fn (.func 170) [] [dP b2,dP b3]] 321,.row v1 (List.map za a0) 2 324,.var b2 [.sl 2 (List.map ze a1)] 104,.var b3 [dP b4] 28,.var b4 [.val v5] 264,.row v5 (lB a2) 1 5] (fun x=>.ifc 324 (.agg [.sl 3 (List.map z8 res.1.fRest),dN res.1.fWhich])) (fun x=>[.var b0 [.val (vn x 0),.fn (.func 170) [] [dP b2,dP b3]] 321,.row (vn x 0) (List.map za res.2) 2 324,.var b2 [.sl 2 (List.map ze a1)] 104,.var b3 [dP b4] 28,.var b4 [.val v5] 264,.row v5 (lB a2) 1 5]):=by
 unfold vM at h0;refine zg (X:=X) Z Tryz.func299 Z Z Tryz.ntmps299 Z Z ?_;refine aS ?_;refine aA Z Z ?_;refine aN Z ?_;refine aS ?_;iterate 3 refine aA rfl rfl ?_
 refine z6 (z7 0 Z Z Z Z) Z ?_;refine z6 (yz za 1 Z Z Z Z) Z ?_;iterate 2 refine aA rfl rfl ?_
 refine aN Z ?_;refine aS ?_;iterate 3 refine aA rfl rfl ?_
 refine z6 (z7 0 Z Z Z Z) Z ?_;refine aA Z Z ?_;obtain⟨x1,hx1,h0⟩:=bS h0;refine z6 (zK za 1 hx1 Z Z Z Z Z Z Z) Z ?_;refine z6 (zJ (j:=w64 ((a0.length:Int)-1)) za 1 hx1 Z Z Z Z) Z ?_;refine TL.op (OpR.alloc Z Z (fun _=>Z)) Z (fun p2=>?_);refine zy (OpR.store 6 Z Z Z Z Z Z Z Z) ?_;refine aN Z ?_;refine aS ?_;iterate 4 refine aA rfl rfl ?_
 refine z6 (z7 0 Z Z Z Z) Z ?_;refine aA Z Z ?_;obtain⟨x3,hx3,h0⟩:=bS h0;refine z6 (wG za 1 hx3 Z Z Z Z Z Z BdM.none (BdM.some Z)) Z ?_;iterate 2 refine aA rfl rfl ?_
 refine zy (OpR.store 0 Z Z Z Z Z Z Z Z) ?_;refine aN Z ?_;refine T.ghost (qJ (ow:=[.var b0 [.val (vw v1 (0:Int).toNat (w64 ((a0.length:Int)-1):Int).toNat 2),.fn (.func 170) [] [dP b2,dP b3]] 321,.row v1 (List.map za a0) 2 324,.var b2 [.sl 2 (List.map ze a1)] 104,.var b3 [dP b4] 28,.var b4 [.val v5] 264,.row v5 (lB a2) 1 5,.var (blk p2) [.sl 3 (List.map z8 x1.fRest),dN x1.fWhich] 324]) za 1 hx3 Z Z) ?_;refine aS ?_;refine z6 (z7 6 Z Z Z Z) Z ?_;refine z6 (uw Z Z Z) Z ?_;refine aA Z Z ?_;refine aN Z ?_;refine T.ret ?_;obtain rfl:=osi h0;exact rP [0,1,2,3,4,5] [2] [0,1,2,3,4,5] Z Z Z (.tuple #[(vw v1 (0:Int).toNat (w64 ((a0.length:Int)-1):Int).toNat 2)]) (cT Z ResL.nil) Z Z Z Z
noncomputable def uq (a0:List merge_run_damier_row_Row) (a1:List order_By) (a2:List UInt8):Option (merge_run_damier_row_Row × (List merge_run_damier_row_Row)):=
 bnd (xF a0 a1 a2) fun x1=>
 bnd (xV 0 (w64 (x1-1)) a0 a1 a2) fun x2=>
 bnd (yU 0 (w64 (x1-1)) x2 a1 a2) fun x3=>
 bnd (vM x3.2 a1 a2) fun x4=>
 some (x4.1,x4.2)
theorem rY {a0:List merge_run_damier_row_Row} {a1:List order_By} {a2:List UInt8} {b0:Nat} {v1:Value} {b2:Nat} {b3:Nat} {b4:Nat} {v5:Value} {res:merge_run_damier_row_Row × (List merge_run_damier_row_Row)} (h0:uq a0 a1 a2=some res):zn X 243 [.ifc 318 (dP b0)] [.var b0 [.val v1,.fn (.func 170) [] [dP b2,dP b3]] 321,.row v1 (List.map za a0) 2 324,.var b2 [.sl 2 (List.map ze a1)] 104,.var b3 [dP b4] 28,.var b4 [.val v5] 264,.row v5 (lB a2) 1 5] (fun x=>.ifc 324 (.agg [.sl 3 (List.map z8 res.1.fRest),dN res.1.fWhich])) (fun x=>[.var b0 [.val (vn x 0),.fn (.func 170) [] [dP b2,dP b3]] 321,.row (vn x 0) (List.map za res.2) 2 324,.var b2 [.sl 2 (List.map ze a1)] 104,.var b3 [dP b4] 28,.var b4 [.val v5] 264,.row v5 (lB a2) 1 5]):=by
 unfold uq at h0;refine zg (X:=X) Z Tryz.func243 Z Z Tryz.ntmps243 Z Z ?_;refine aS ?_;refine aA Z Z ?_;refine aN Z ?_;refine aS ?_;refine aA Z Z ?_;obtain⟨x1,hx1,h0⟩:=bS h0;refine z6 (xz [0,1,2,3,4,5] Z mt318_Len fn242 (wy hx1) Z Z Z (fun _=>Z)) Z ?_;iterate 2 refine aA rfl rfl ?_
 refine aN Z ?_;refine aS ?_;iterate 2 refine aA rfl rfl ?_
 obtain⟨x2,hx2,h0⟩:=bS h0;refine z6 (xz [0,1,2,3,4,5] Z mt318_Swap fn301 (vm hx2) Z Z Z (fun _=>Z)) Z ?_;refine aN Z ?_;refine aS ?_;iterate 2 refine aA rfl rfl ?_
 obtain⟨x3,hx3,h0⟩:=bS h0;refine z6 (OpR.call [0,1,2,3,4,5] fn265 (tn hx3) Z Z Z (fun _=>Z)) Z ?_;refine aN Z ?_;refine aS ?_;refine aA Z Z ?_;obtain⟨x4,hx4,h0⟩:=bS h0;refine TL.op (xz [0,1,2,3,4,5] Z mt318_Pop fn299 (ro hx4) Z Z Z (fun _=>Z)) Z (fun w5=>?_);refine aA Z Z ?_;refine aN Z ?_;refine T.ret ?_;obtain rfl:=osi h0;exact rO [0,1,2,3,4,5] [2] Z (.tuple #[(vn w5 0)]) (cT Z ResL.nil) Z Z Z Z
noncomputable def ur (a0:Int) (a1:List merge_run_damier_row_Row) (a2:List order_By) (a3:List UInt8):Option (List merge_run_damier_row_Row):=
 bnd (xF a1 a2 a3) fun x1=>
 bnd (yU a0 x1 a1 a2 a3) fun x2=>
 if x2.1=true then
 some x2.2
else
 bnd (xp a0 x2.2 a2 a3) fun x4=>
 some x4
theorem rZ {a0:Int} {a1:List merge_run_damier_row_Row} {a2:List order_By} {a3:List UInt8} {b0:Nat} {v1:Value} {b2:Nat} {b3:Nat} {b4:Nat} {v5:Value} {res:(List merge_run_damier_row_Row)} (h0:ur a0 a1 a2 a3=some res):zn X 244 [.ifc 318 (dP b0),dN a0] [.var b0 [.val v1,.fn (.func 170) [] [dP b2,dP b3]] 321,.row v1 (List.map za a1) 2 324,.var b2 [.sl 2 (List.map ze a2)] 104,.var b3 [dP b4] 28,.var b4 [.val v5] 264,.row v5 (lB a3) 1 5] (fun x=>.tup []) (fun x=>[.var b0 [.val v1,.fn (.func 170) [] [dP b2,dP b3]] 321,.row v1 (List.map za res) 2 324,.var b2 [.sl 2 (List.map ze a2)] 104,.var b3 [dP b4] 28,.var b4 [.val v5] 264,.row v5 (lB a3) 1 5]):=by
 unfold ur at h0;refine zg (X:=X) Z Tryz.func244 Z Z Tryz.ntmps244 Z Z ?_;refine aS ?_;iterate 3 refine aA rfl rfl ?_
 obtain⟨x1,hx1,h0⟩:=bS h0;refine z6 (xz [0,1,2,3,4,5] Z mt318_Len fn242 (wy hx1) Z Z Z (fun _=>Z)) Z ?_;obtain⟨x2,hx2,h0⟩:=bS h0;refine z6 (OpR.call [0,1,2,3,4,5] fn265 (tn hx2) Z Z Z (fun _=>Z)) Z ?_;refine aA Z Z ?_;refine aN Z ?_;rcases z9 h0 with ⟨c3,h0⟩|⟨c3,h0⟩
 ·refine zh Z (zS (c3)) ?_;refine T.skip ?_;obtain rfl:=osi h0;exact xj (ks:=[0,1,2,3,4,5]) (Gst.only [] Z) undef ResL.nil Z Z Z Z
 refine zi Z (yd (eN c3)) ?_;refine T.region ?_;iterate 2 refine aA rfl rfl ?_
 obtain⟨x4,hx4,h0⟩:=bS h0;refine z6 (OpR.call [0,1,2,3,4,5] fn264 (tQ hx4) Z Z Z (fun _=>Z)) Z ?_;refine TL.nil ?_;obtain rfl:=osi h0;exact xj (ks:=[0,1,2,3,4,5]) (Gst.only [] Z) undef ResL.nil Z Z Z Z
noncomputable def yE.l1 (a0:List (List row_Row)) (a2:List order_By) (a3:List UInt8) (s5:Int × (List merge_run_damier_row_Row)):Option (Lp (Int × (List merge_run_damier_row_Row)) (List merge_run_damier_row_Row)):=
 if s5.1<(a0.length:Int) then
 bnd (idx a0 s5.1) fun x14=>
 bnd (if (x14.length:Int)>0 then
 bnd (uf (⟨x14,s5.1⟩:merge_run_damier_row_Row) s5.2 a2 a3) fun x18=>
 some x18
else
 some s5.2:Option (List merge_run_damier_row_Row)) fun t15=>
 some (Lp.next (w64 (s5.1+1),t15))
else
 some (Lp.done s5.2)
noncomputable def yE.l2 (a1:Int) (a2:List order_By) (a3:List UInt8) (s24:(List row_Row) × (List merge_run_damier_row_Row)):Option (Lp ((List row_Row) × (List merge_run_damier_row_Row)) (List row_Row)):=
 bnd (bnd (xF s24.2 a2 a3) fun x33=>
 if x33>0 then
 some (decide ((s24.1.length:Int)<a1))
else
 some false:Option Bool) fun t32=>
 if t32=true then
 bnd (idx s24.2 0) fun x36=>
 bnd (idx x36.fRest 0) fun x37=>
 bnd (app 40 s24.1 [x37]) fun x38=>
 bnd (cut x36.fRest 1 (x36.fRest.length:Int)) fun x40=>
 bnd (idx (s24.2.set (0:Int).toNat (⟨x40,x36.fWhich⟩:merge_run_damier_row_Row)) 0) fun x41=>
 if (x41.fRest.length:Int)=0 then
 bnd (uq (s24.2.set (0:Int).toNat (⟨x40,x36.fWhich⟩:merge_run_damier_row_Row)) a2 a3) fun x43=>
 some (Lp.next (x38,x43.2))
else
 bnd (ur 0 (s24.2.set (0:Int).toNat (⟨x40,x36.fWhich⟩:merge_run_damier_row_Row)) a2 a3) fun x45=>
 some (Lp.next (x38,x45))
else
 some (Lp.done s24.1)
noncomputable def yE (a0:List (List row_Row)) (a1:Int) (a2:List order_By) (a3:List UInt8):Option (List row_Row):=
 bnd (loop (yE.l1 a0 a2 a3) (0,[]):Option (List merge_run_damier_row_Row)) fun t2=>
 bnd (loop (yE.l2 a1 a2 a3) ([],t2):Option (List row_Row)) fun t20=>
 some t20
theorem qx {a0:List (List row_Row)} {a1:Int} {a2:List order_By} {a3:List UInt8} {b0:Nat} {b1:Nat} {b2:Nat} {v3:Value} {res:(List row_Row)} (h0:yE a0 a1 a2 a3=some res):zn X 215 [.fn (.func 170) [] [dP b0,dP b1],.sl 1 (List.map xP a0),dN a1] [.var b0 [.sl 2 (List.map ze a2)] 104,.var b1 [dP b2] 28,.var b2 [.val v3] 264,.row v3 (lB a3) 1 5] (fun x=>.val (vn x 0)) (fun x=>[.var b0 [.sl 2 (List.map ze a2)] 104,.var b1 [dP b2] 28,.var b2 [.val v3] 264,.row v3 (lB a3) 1 5,.row (vn x 0) (List.map z8 res) 3 49]):=by
 unfold yE at h0;refine zg (X:=X) Z Tryz.func215 Z Z Tryz.ntmps215 Z Z ?_;refine aS ?_;refine aA Z Z ?_;refine aN Z ?_;refine aS ?_;refine aA Z Z ?_;refine z6 (OpR.build Z Z Z Z Z) Z ?_;refine TL.op (xK Z Z (fun _=>Z)) Z (fun p1=>?_);refine aA Z Z ?_;refine aN Z ?_;refine T.seq ?_;refine aS ?_;refine aA Z Z ?_;refine z6 (zk (OpR.pure Z) (xh (xX _ _))) Z ?_;refine aA Z Z ?_;refine aN Z ?_;obtain⟨t2,ht2,h0⟩:=bS h0;refine zz (fun S'=>∃ y3:Value,S'=⟨[(7,(dP (blk p1))),(6,.val (.slice none 0 0)),(2,(dN a1))],[.var b0 [.sl 2 (List.map ze a2)] 104,.var b1 [dP b2] 28,.var b2 [.val v3] 264,.row v3 (lB a3) 1 5,.var (blk p1) [.val y3,.fn (.func 170) [] [dP b0,dP b1]] 321,.row y3 (List.map za t2) 2 324],77⟩) (fun _ h=>h) ?_ ?_
 ·refine T.block ?_;obtain⟨n6,n11⟩:=zw ht2;refine T.loop (fun n S'=>∃ S'',Gst S' S''∧∃ y4:Value,∃ s5:Int × (List merge_run_damier_row_Row),S''=⟨[(17,(dN s5.1)),(16,(dN (a0.length:Int))),(15,.sl 1 (List.map xP a0)),(7,(dP (blk p1))),(6,.val (.slice none 0 0)),(2,(dN a1))],[.var b0 [.sl 2 (List.map ze a2)] 104,.var b1 [dP b2] 28,.var b2 [.val v3] 264,.row v3 (lB a3) 1 5,.var (blk p1) [.val y4,.fn (.func 170) [] [dP b0,dP b1]] 321,.row y4 (List.map za s5.2) 2 324],77⟩∧wc (yE.l1 a0 a2 a3) n s5=some t2) n6 ?_ ?_
  ·exact⟨_,Gst.trans (Gst.only [2,6,7,15,16,17] Z) (ya (ow:=[.var b0 [.sl 2 (List.map ze a2)] 104,.var b1 [dP b2] 28,.var b2 [.val v3] 264,.row v3 (lB a3) 1 5,.var (blk p1) [.val (.slice none 0 0),.fn (.func 170) [] [dP b0,dP b1]] 321]) 2 324 Z),(.slice none 0 0),(0,[]),Z,n11⟩
  rintro n6 _ ⟨_,g,y4,s5,rfl,i10⟩;refine T.ghost g ?_;obtain⟨m7,q8,rfl,q9,i10⟩:=zx i10;unfold yE.l1 at q9;refine aS ?_;refine aA Z Z ?_;refine aN Z ?_;refine T.seq ?_;rcases z9 q9 with ⟨c13,q9⟩|⟨c13,q9⟩;rotate_left
  ·refine zh Z (eF c13) ?_;refine T.exit ?_;obtain rfl:=osi q9;obtain rfl:_=_:=i10;exact⟨_,Gst.only [2,6,7] Z,y4,Z⟩
  refine zi Z (eT c13) ?_;refine aK Z ?_;refine T.seq ?_;refine T.block ?_;refine aS ?_;refine aA Z Z ?_;obtain⟨x14,hx14,q9⟩:=bS q9;refine z6 (zp xP hx14 Z Z Z Z Z) Z ?_;iterate 3 refine aA rfl rfl ?_
  refine aN Z ?_;refine aS ?_;refine aA Z Z ?_;refine z6 (zk (OpR.pure Z) (xh (xX _ _))) Z ?_;refine aA Z Z ?_;refine aN Z ?_;obtain⟨t15,ht15,q9⟩:=bS q9;refine zz (fun S'=>∃ y16:Value,S'=⟨[(17,(dN s5.1)),(16,(dN (a0.length:Int))),(15,.sl 1 (List.map xP a0)),(7,(dP (blk p1))),(6,.val (.slice none 0 0)),(2,(dN a1))],[.var b0 [.sl 2 (List.map ze a2)] 104,.var b1 [dP b2] 28,.var b2 [.val v3] 264,.row v3 (lB a3) 1 5,.var (blk p1) [.val y16,.fn (.func 170) [] [dP b0,dP b1]] 321,.row y16 (List.map za t15) 2 324],77⟩) (fun _ h=>h) ?_ ?_;rotate_left
  ·rintro _ ⟨y16,rfl⟩;show T X _ _ _;refine T.region ?_;iterate 2 refine aA rfl rfl ?_
   refine TL.nil ?_;obtain rfl:=osi q9;exact⟨m7,Nat.lt_succ_self _,_,Gst.only [2,6,7,15,16,17] Z,y16,(w64 (s5.1+1),t15),Z,i10⟩
  rcases z9 ht15 with ⟨c17,ht15⟩|⟨c17,ht15⟩;rotate_left
  ·refine zh Z (eF c17) ?_;refine T.skip ?_;obtain rfl:=osi ht15;exact⟨_,Gst.only [2,6,7,15,16,17] Z,y4,Z⟩
  refine zi Z (eT c17) ?_;refine T.region ?_;refine aA Z Z ?_;refine z6 (uw Z Z Z) Z ?_;iterate 2 refine aA rfl rfl ?_
  refine z6 (OpR.build Z Z Z Z Z) Z ?_;refine z6 (uw Z Z Z) Z ?_;obtain⟨x18,hx18,ht15⟩:=bS ht15;refine TL.op (OpR.call [4,5,0,1,2,3] fn241 (rL hx18) Z Z Z (fun _=>Z)) Z (fun w19=>?_);refine TL.nil ?_;obtain rfl:=osi ht15;exact⟨_,Gst.only [2,6,7,15,16,17] Z,(vn w19 0),Z⟩
 rintro _ ⟨y3,rfl⟩;show T X _ _ _;refine aS ?_;refine aA Z Z ?_;refine aN Z ?_;refine T.seq ?_;obtain⟨t20,ht20,h0⟩:=bS h0;refine zz (fun S'=>∃ y21:Value,S'=⟨[(10,.val y21),(6,.val (.slice none 0 0))],[.var b0 [.sl 2 (List.map ze a2)] 104,.var b1 [dP b2] 28,.var b2 [.val v3] 264,.row v3 (lB a3) 1 5,.row y21 (List.map z8 t20) 3 49],77⟩) (fun _ h=>h) ?_ ?_;rotate_left
 ·rintro _ ⟨y21,rfl⟩;show T X _ _ _;refine aS ?_;iterate 2 refine aA rfl rfl ?_
  refine aN Z ?_;refine T.ret ?_;obtain rfl:=osi h0;exact rO [0,1,2,3,4] [6] Z (.tuple #[y21]) (cT Z ResL.nil) Z Z Z Z
 refine T.block ?_;obtain⟨n25,n30⟩:=zw ht20;refine T.loop (fun n S'=>∃ S'',Gst S' S''∧∃ y22:Value,∃ y23:Value,∃ s24:(List row_Row) × (List merge_run_damier_row_Row),S''=⟨[(10,.val y22),(7,(dP (blk p1))),(6,.val (.slice none 0 0)),(2,(dN a1))],[.var b0 [.sl 2 (List.map ze a2)] 104,.var b1 [dP b2] 28,.var b2 [.val v3] 264,.row v3 (lB a3) 1 5,.var (blk p1) [.val y23,.fn (.func 170) [] [dP b0,dP b1]] 321,.row y22 (List.map z8 s24.1) 3 49,.row y23 (List.map za s24.2) 2 324],77⟩∧wc (yE.l2 a1 a2 a3) n s24=some t20) n25 ?_ ?_
 ·exact⟨_,Gst.trans (Gst.only [2,6,7,10] Z) (Gst.trans (ya (ow:=[.var b0 [.sl 2 (List.map ze a2)] 104,.var b1 [dP b2] 28,.var b2 [.val v3] 264,.row v3 (lB a3) 1 5,.var (blk p1) [.val y3,.fn (.func 170) [] [dP b0,dP b1]] 321,.row y3 (List.map za t2) 2 324]) 3 49 Z) (Gst.pick [0,1,2,3,4,6,5] Z Z)),(.slice none 0 0),y3,([],t2),Z,n30⟩
 rintro n25 _ ⟨_,g,y22,y23,s24,rfl,i29⟩;refine T.ghost g ?_;obtain⟨m26,q27,rfl,q28,i29⟩:=zx i29;unfold yE.l2 at q28;refine T.seq ?_;refine T.seq ?_;obtain⟨t32,ht32,q28⟩:=bS q28;refine zz (fun S'=>S'=⟨[(41,(dT t32)),(10,.val y22),(7,(dP (blk p1))),(6,.val (.slice none 0 0)),(2,(dN a1))],[.var b0 [.sl 2 (List.map ze a2)] 104,.var b1 [dP b2] 28,.var b2 [.val v3] 264,.row v3 (lB a3) 1 5,.var (blk p1) [.val y23,.fn (.func 170) [] [dP b0,dP b1]] 321,.row y22 (List.map z8 s24.1) 3 49,.row y23 (List.map za s24.2) 2 324],77⟩) (fun _ h=>h) ?_ ?_
 ·refine T.region ?_;refine aA Z Z ?_;obtain⟨x33,hx33,ht32⟩:=bS ht32;refine z6 (OpR.call [4,6,0,1,2,3] fn242 (wy hx33) Z Z Z (fun _=>Z)) Z ?_;iterate 2 refine aA rfl rfl ?_
  rcases z9 ht32 with ⟨c34,ht32⟩|⟨c34,ht32⟩;rotate_left
  ·refine TL.off Z Z Z Z (eF c34) Z Z ?_;refine TL.off Z Z Z Z (eF c34) Z Z ?_;refine TL.off Z Z Z Z (eF c34) Z Z ?_;refine TL.off Z Z Z Z (eF c34) Z Z ?_;refine z6 (zu Z (eF c34) Z) Z ?_;refine TL.nil ?_;obtain rfl:=osi ht32;exact⟨_,Gst.only [2,6,7,10,41] Z,Z⟩
  refine TL.on Z Z Z Z (eT c34) ?_;refine aA Z Z ?_;refine TL.on Z Z Z Z (eT c34) ?_;refine z6 (yz z8 5 Z Z Z Z) Z ?_;refine TL.on Z Z Z Z (eT c34) ?_;refine aA Z Z ?_;refine TL.on Z Z Z Z (eT c34) ?_;refine aA Z Z ?_;refine z6 (zt Z (eT c34) Z) Z ?_;refine TL.nil ?_;obtain rfl:=osi ht32;exact⟨_,Gst.only [2,6,7,10,41] Z,Z⟩
 rintro _ rfl;show T X _ _ _;rcases z9 q28 with ⟨c35,q28⟩|⟨c35,q28⟩;rotate_left
 ·refine zh Z (eN c35) ?_;refine T.exit ?_;obtain rfl:=osi q28;obtain rfl:_=_:=i29;exact⟨_,gP [6,10] [0,1,2,3,5] Z Z Z,y22,Z⟩
 refine zi Z (c35) ?_;refine aK Z ?_;refine T.block ?_;refine aS ?_;iterate 3 refine aA rfl rfl ?_
 refine z6 (z7 4 Z Z Z Z) Z ?_;obtain⟨x36,hx36,q28⟩:=bS q28;refine z6 (zK za 6 hx36 Z Z Z Z Z Z Z) Z ?_;refine aA Z Z ?_;refine aN Z ?_;refine aS ?_;iterate 4 refine aA rfl rfl ?_
 refine z6 (zJ (j:=0) za 6 hx36 Z Z Z Z) Z ?_;obtain⟨x37,hx37,q28⟩:=bS q28;refine z6 (zp z8 hx37 Z Z Z Z Z) Z ?_;refine aA Z Z ?_;refine z6 (yC Z Z Z Z Z Z Z) Z ?_;obtain⟨x38,hx38,q28⟩:=bS q28;refine TL.op (zH (m:=[x37]) z8 5 hx38 Z Z Z Z Z Z Z Z Z (fun _=>Z)) Z (fun v39=>?_);refine aA Z Z ?_;refine aN Z ?_;refine T.seq ?_;refine aS ?_;iterate 4 refine aA rfl rfl ?_
 refine z6 (zJ (j:=0) za 6 hx36 Z Z Z Z) Z ?_;obtain⟨x40,hx40,q28⟩:=bS q28;refine z6 (wO (sz:=3) z8 hx40 Z Z Z Z (BdM.some Z) BdM.none Z) Z ?_;iterate 2 refine aA rfl rfl ?_
 refine zy (yA (j:=0) za (⟨x40,x36.fWhich⟩:merge_run_damier_row_Row) 6 hx36 Z Z Z Z Z Z Z Z Z) ?_;refine aN Z ?_;refine aS ?_;iterate 3 refine aA rfl rfl ?_
 obtain⟨x41,hx41,q28⟩:=bS q28;refine z6 (zJ (j:=0) za 6 hx41 Z Z Z Z) Z ?_;refine z6 (zk (OpR.pure Z) (xh (xX _ _))) Z ?_;refine aA Z Z ?_;refine aN Z ?_;rcases z9 q28 with ⟨c42,q28⟩|⟨c42,q28⟩;rotate_left
 ·refine zh Z (beq_eq_false_iff_ne.2 c42) ?_;refine aK Z ?_;refine T.region ?_;refine aA Z Z ?_;refine z6 (uw Z Z Z) Z ?_;obtain⟨x45,hx45,q28⟩:=bS q28;refine z6 (OpR.call [4,6,0,1,2,3] fn244 (rZ hx45) Z Z Z (fun _=>Z)) Z ?_;refine TL.nil ?_;obtain rfl:=osi q28;exact⟨m26,Nat.lt_succ_self _,_,Gst.only [2,6,7,10] Z,v39,y23,(x38,x45),Z,i29⟩
 refine zi Z (beq_iff_eq.2 c42) ?_;refine aS ?_;refine aA Z Z ?_;refine z6 (uw Z Z Z) Z ?_;obtain⟨x43,hx43,q28⟩:=bS q28;refine TL.op (OpR.call [4,6,0,1,2,3] fn243 (rY hx43) Z Z Z (fun _=>Z)) Z (fun w44=>?_);refine aN Z ?_;refine T.exit ?_;obtain rfl:=osi q28;exact⟨m26,Nat.lt_succ_self _,_,Gst.only [2,6,7,10] Z,v39,(vn w44 0),(x38,x43.2),Z,i29⟩
noncomputable def uF (a0:List (List row_Row)) (a1:List order_By) (a2:List UInt8):Option (List row_Row):=
 bnd (xJ a0) fun x1=>
 bnd (yE a0 x1 a1 a2) fun x2=>
 some x2
theorem qz {a0:List (List row_Row)} {a1:List order_By} {a2:List UInt8} {b0:Nat} {b1:Nat} {b2:Nat} {v3:Value} {res:(List row_Row)} (h0:uF a0 a1 a2=some res):zn X 173 [.fn (.func 170) [] [dP b0,dP b1],.sl 1 (List.map xP a0)] [.var b0 [.sl 2 (List.map ze a1)] 104,.var b1 [dP b2] 28,.var b2 [.val v3] 264,.row v3 (lB a2) 1 5] (fun x=>.val (vn x 0)) (fun x=>[.var b0 [.sl 2 (List.map ze a1)] 104,.var b1 [dP b2] 28,.var b2 [.val v3] 264,.row v3 (lB a2) 1 5,.row (vn x 0) (List.map z8 res) 3 49]):=by
 unfold uF at h0;refine zg (X:=X) Z Tryz.func173 Z Z Tryz.ntmps173 Z Z ?_;refine aS ?_;refine aA Z Z ?_;refine aN Z ?_;refine aS ?_;iterate 3 refine aA rfl rfl ?_
 obtain⟨x1,hx1,h0⟩:=bS h0;refine z6 (zf fn216 (qy hx1) Z) Z ?_;obtain⟨x2,hx2,h0⟩:=bS h0;refine TL.op (OpR.call [0,1,2,3] fn215 (qx hx2) Z Z Z (fun _=>Z)) Z (fun w3=>?_);refine aA Z Z ?_;refine aN Z ?_;refine T.ret ?_;obtain rfl:=osi h0;exact rO [0,1,2,3,4] [4] Z (.tuple #[(vn w3 0)]) (cT Z ResL.nil) Z Z Z Z
noncomputable def tg (a0:List row_Row) (a1:List order_By) (a2:List UInt8):Option (List row_Row):=
 bnd (yK a0 a1 a2) fun x1=>
 bnd (uF x1 a1 a2) fun x2=>
 some x2
theorem qO {a0:List row_Row} {a1:List order_By} {a2:List UInt8} {b0:Nat} {b1:Nat} {b2:Nat} {v3:Value} {res:(List row_Row)} (h0:tg a0 a1 a2=some res):zn X 106 [.sl 3 (List.map z8 a0),.fn (.func 170) [] [dP b0,dP b1]] [.var b0 [.sl 2 (List.map ze a1)] 104,.var b1 [dP b2] 28,.var b2 [.val v3] 264,.row v3 (lB a2) 1 5] (fun x=>.val (vn x 0)) (fun x=>[.var b0 [.sl 2 (List.map ze a1)] 104,.var b1 [dP b2] 28,.var b2 [.val v3] 264,.row v3 (lB a2) 1 5,.row (vn x 0) (List.map z8 res) 3 49]):=by
 unfold tg at h0;refine zg (X:=X) Z Tryz.func106 Z Z Tryz.ntmps106 Z Z ?_;refine aS ?_;refine aA Z Z ?_;refine aN Z ?_;refine aS ?_;iterate 3 refine aA rfl rfl ?_
 obtain⟨x1,hx1,h0⟩:=bS h0;refine z6 (OpR.call [0,1,2,3] fn127 (tZ hx1) Z Z Z (fun _=>Z)) Z ?_;obtain⟨x2,hx2,h0⟩:=bS h0;refine TL.op (OpR.call [0,1,2,3] fn173 (qz hx2) Z Z Z (fun _=>Z)) Z (fun w3=>?_);refine aA Z Z ?_;refine aN Z ?_;refine T.ret ?_;obtain rfl:=osi h0;exact rO [0,1,2,3,4] [4] Z (.tuple #[(vn w3 0)]) (cT Z ResL.nil) Z Z Z Z
noncomputable def sb (a0:row_Row) (a1:row_Row) (a2:List order_By) (a3:List UInt8):Option Bool:=
 bnd (yi a0 a1 a2 a3) fun x1=>
 some (x1==0)
theorem qq {a0:row_Row} {a1:row_Row} {a2:List order_By} {a3:List UInt8} {b0:Nat} {b1:Nat} {b2:Nat} {b3:Nat} {v4:Value} {res:Bool} (h0:sb a0 a1 a2 a3=some res):zn X 108 [.agg [.sl 5 (List.map zo a0.fCells),dN a0.fEnd,dT a0.fHidden],.agg [.sl 5 (List.map zo a1.fCells),dN a1.fEnd,dT a1.fHidden],dP b0] [.var b0 [.fn (.func 170) [] [dP b1,dP b2]] 170,.var b1 [.sl 2 (List.map ze a2)] 104,.var b2 [dP b3] 28,.var b3 [.val v4] 264,.row v4 (lB a3) 1 5] (fun x=>(dT res)) (fun x=>[.var b0 [.fn (.func 170) [] [dP b1,dP b2]] 170,.var b1 [.sl 2 (List.map ze a2)] 104,.var b2 [dP b3] 28,.var b3 [.val v4] 264,.row v4 (lB a3) 1 5]):=by
 unfold sb at h0;refine zg (X:=X) Z Tryz.func108 Z Z Tryz.ntmps108 Z Z ?_;refine aS ?_;refine z6 (zD Z Z) Z ?_;refine z6 (zD Z Z) Z ?_;refine aA Z Z ?_;refine aN Z ?_;refine aS ?_;refine z6 (z7 0 Z Z Z Z) Z ?_;iterate 2 refine aA rfl rfl ?_
 obtain⟨x1,hx1,h0⟩:=bS h0;refine z6 (ux [1,2,3,4] Z fn170 (vR hx1) Z Z Z (fun _=>Z)) Z ?_;iterate 2 refine aA rfl rfl ?_
 refine aN Z ?_;refine T.ret ?_;obtain rfl:=osi h0;exact rO [0,1,2,3,4] [5] Z undef (cT Z ResL.nil) Z Z Z Z
noncomputable def zF.l1 (a0:List row_Row) (a1:List order_By) (a2:List UInt8) (s4:Int) (s20:Int × Int × (List row_Row)):Option (Lp (Int × Int × (List row_Row)) (Int × (List row_Row))):=
 bnd (cut s20.2.2 s4 (a0.length:Int)) fun x28=>
 if s20.2.1<(x28.length:Int) then
 bnd (idx x28 s20.2.1) fun x31=>
 bnd (idx x28 (w64 (s20.2.1-1))) fun x32=>
 bnd (sb x31 x32 a1 a2) fun x33=>
 bnd (if x33=true then
 some (s20.1,s20.2.2)
else
 bnd (idx s20.2.2 s20.1) fun x36=>
 some (w64 (s20.1+1),(s20.2.2.set s20.1.toNat x31)):Option (Int × (List row_Row))) fun t34=>
 some (Lp.next (t34.1,w64 (s20.2.1+1),t34.2))
else
 some (Lp.done (s20.1,s20.2.2))
noncomputable def zF.l2 (a0:List row_Row) (a1:List order_By) (a2:List UInt8) (s4:Int):Option (Lp Int (Ex Unit (Unit ⊕ (Int × Int × (List row_Row))))):=
 if s4<(a0.length:Int) then
 bnd (idx a0 s4) fun x14=>
 bnd (idx a0 (w64 (s4-1))) fun x15=>
 bnd (sb x14 x15 a1 a2) fun x16=>
 if x16=true then
 bnd (cut a0 s4 (a0.length:Int)) fun x18=>
 bnd (loop (zF.l1 a0 a1 a2 s4) (s4,1,a0):Option (Int × (List row_Row))) fun t19=>
 bnd (cut t19.2 t19.1 (t19.2.length:Int)) fun x37=>
 bnd (cut (fillZ t19.2 t19.1 (t19.2.length:Int) ((⟨[],0,false⟩:row_Row):row_Row)) 0 t19.1) fun x38=>
 some (Lp.done (Ex.ret (Sum.inr (0,t19.1,(fillZ t19.2 t19.1 (t19.2.length:Int) ((⟨[],0,false⟩:row_Row):row_Row))))))
else
 some (Lp.next (w64 (s4+1)))
else
 some (Lp.done (Ex.brk ()))
noncomputable def zF (a0:List row_Row) (a1:List order_By) (a2:List UInt8):Option (Unit ⊕ (Int × Int × (List row_Row))):=
 if (a0.length:Int)<2 then
 some (Sum.inl ())
else
 bnd (loop (zF.l2 a0 a1 a2) 1:Option (Ex Unit (Unit ⊕ (Int × Int × (List row_Row))))) fun t2=>match t2 with
| .brk u3=>
 some (Sum.inl ())
| .ret u3=>some u3
theorem wH {a0:List row_Row} {a1:List order_By} {a2:List UInt8} {v0:Value} {b1:Nat} {b2:Nat} {b3:Nat} {b4:Nat} {v5:Value} {res:Unit ⊕ (Int × Int × (List row_Row))} (h0:zF a0 a1 a2=some res):zn X 107 [.val v0,.fn (.func 108) [] [dP b1]] [.row v0 (List.map z8 a0) 3 49,.var b1 [.fn (.func 170) [] [dP b2,dP b3]] 170,.var b2 [.sl 2 (List.map ze a1)] 104,.var b3 [dP b4] 28,.var b4 [.val v5] 264,.row v5 (lB a2) 1 5] (fun x=>(match res with | .inl res=>.val v0 | .inr res=>.val (vw v0 (res.1:Int).toNat (res.2.1:Int).toNat 3))) (fun x=>(match res with | .inl res=>[.row v0 (List.map z8 a0) 3 49,.var b1 [.fn (.func 170) [] [dP b2,dP b3]] 170,.var b2 [.sl 2 (List.map ze a1)] 104,.var b3 [dP b4] 28,.var b4 [.val v5] 264,.row v5 (lB a2) 1 5] | .inr res=>[.row v0 (List.map z8 res.2.2) 3 49,.var b1 [.fn (.func 170) [] [dP b2,dP b3]] 170,.var b2 [.sl 2 (List.map ze a1)] 104,.var b3 [dP b4] 28,.var b4 [.val v5] 264,.row v5 (lB a2) 1 5])):=by
 unfold zF at h0;refine zg (X:=X) Z Tryz.func107 Z Z Tryz.ntmps107 Z Z ?_;refine aS ?_;refine aA Z Z ?_;refine aN Z ?_;refine T.seq ?_;refine aS ?_;refine aA Z Z ?_;refine z6 (yz z8 0 Z Z Z Z) Z ?_;refine aA Z Z ?_;refine aN Z ?_;rcases z9 h0 with ⟨c1,h0⟩|⟨c1,h0⟩
 ·refine zi Z (eT c1) ?_;refine aS ?_;iterate 2 refine aA rfl rfl ?_
  refine aN Z ?_;refine T.ret ?_;obtain rfl:=osi h0;exact rO [0,1,2,3,4,5] [4] Z undef (cT Z ResL.nil) Z Z Z Z
 refine zh Z (eF c1) ?_;refine aK Z ?_;refine T.seq ?_;refine aS ?_;refine aA Z Z ?_;refine aN Z ?_;obtain⟨t2,ht2,h0⟩:=bS h0;refine zz (fun S'=>∃ u3,t2=Ex.brk u3∧S'=⟨[(4,.val (.slice none 0 0)),(0,.val v0)],[.row v0 (List.map z8 a0) 3 49,.var b1 [.fn (.func 170) [] [dP b2,dP b3]] 170,.var b2 [.sl 2 (List.map ze a1)] 104,.var b3 [dP b4] 28,.var b4 [.val v5] 264,.row v5 (lB a2) 1 5],66⟩) (fun _ h=>h) ?_ ?_;rotate_left
 ·rintro _ ⟨u3,rfl,rfl⟩;show T X _ _ _;refine aS ?_;iterate 2 refine aA rfl rfl ?_
  refine aN Z ?_;refine T.ret ?_;obtain rfl:=osi h0;exact rO [0,1,2,3,4,5] [4] Z undef (cT Z ResL.nil) Z Z Z Z
 refine T.block ?_;obtain⟨n5,n10⟩:=zw ht2;refine T.loop (fun n S'=>∃ S'',Gst S' S''∧∃ s4:Int,S''=⟨[(5,(dN s4)),(4,.val (.slice none 0 0)),(1,.fn (.func 108) [] [dP b1]),(0,.val v0)],[.row v0 (List.map z8 a0) 3 49,.var b1 [.fn (.func 170) [] [dP b2,dP b3]] 170,.var b2 [.sl 2 (List.map ze a1)] 104,.var b3 [dP b4] 28,.var b4 [.val v5] 264,.row v5 (lB a2) 1 5],66⟩∧wc (zF.l2 a0 a1 a2) n s4=some t2) n5 ?_ ?_
 ·exact⟨_,Gst.only [0,1,4,5] Z,1,Z,n10⟩
 rintro n5 _ ⟨_,g,s4,rfl,i9⟩;refine T.ghost g ?_;obtain⟨m6,q7,rfl,q8,i9⟩:=zx i9;unfold zF.l2 at q8;refine T.seq ?_;refine aS ?_;iterate 2 refine aA rfl rfl ?_
 refine z6 (yz z8 0 Z Z Z Z) Z ?_;refine aA Z Z ?_;refine aN Z ?_;rcases z9 q8 with ⟨c12,q8⟩|⟨c12,q8⟩;rotate_left
 ·refine zh Z (eF c12) ?_;refine T.exit ?_;obtain rfl:=osi q8;obtain rfl:_=_:=i9;exact⟨_,Gst.only [0,4] Z,_,Z,Z⟩
 refine zi Z (eT c12) ?_;refine aK Z ?_;refine T.seq ?_;refine T.block ?_;refine T.seq ?_;obtain⟨x14,hx14,q8⟩:=bS q8;obtain⟨x15,hx15,q8⟩:=bS q8;obtain⟨x16,hx16,q8⟩:=bS q8;refine yo zW [.fn (.func 108) [] [dP b1],.val v0,dN s4,.val (.pointer (some ⟨blk v0,s4.toNat*3,none⟩)),.agg [.sl 5 (List.map zo x14.fCells),dN x14.fEnd,dT x14.fHidden],.val v0,dN s4,dN (w64 (s4-1)),.val (.pointer (some ⟨blk v0,(w64 (s4-1)).toNat*3,none⟩)),.agg [.sl 5 (List.map zo x15.fCells),dN x15.fEnd,dT x15.fHidden],dT x16] [0,1,4,5,28] (by decide +kernel) Z ?_ Z ?_
 ·iterate 3 refine aB rfl rfl rfl ?_
  refine zq.yes (Want.plain Z) Z (zK z8 0 hx14 Z Z Z Z Z Z Z) ?_;refine zq.yes (Want.plain Z) Z (zJ (j:=s4) z8 0 hx14 Z Z Z Z) ?_;iterate 3 refine aB rfl rfl rfl ?_
  refine zq.yes (Want.plain Z) Z (zK z8 0 hx15 Z Z Z Z Z Z Z) ?_;refine zq.yes (Want.plain Z) Z (zJ (j:=w64 (s4-1)) z8 0 hx15 Z Z Z Z) ?_;refine zq.yes (Want.plain Z) Z (ux [1,2,3,4,5] Z fn108 (qq hx16) Z Z Z (fun _=>Z)) ?_;exact zq.nil
 show T X _ _ _;rcases z9 q8 with ⟨c17,q8⟩|⟨c17,q8⟩;rotate_left
 ·refine zh Z (eN c17) ?_;refine aK Z ?_;refine T.region ?_;iterate 3 refine aA rfl rfl ?_
  refine TL.nil ?_;obtain rfl:=osi q8;exact⟨m6,Nat.lt_succ_self _,_,Gst.only [0,1,4,5] Z,w64 (s4+1),Z,i9⟩
 refine zi Z (c17) ?_;refine aS ?_;iterate 2 refine aA rfl rfl ?_
 obtain⟨x18,hx18,q8⟩:=bS q8;refine z6 (wG z8 0 hx18 Z Z Z Z Z Z (BdM.some Z) BdM.none) Z ?_;refine aA Z Z ?_;refine aN Z ?_;refine T.seq ?_;refine aS ?_;refine aA Z Z ?_;refine aN Z ?_;obtain⟨t19,ht19,q8⟩:=bS q8;refine zz (fun S'=>S'=⟨[(5,(dN t19.1)),(4,.val (.slice none 0 0)),(1,.fn (.func 108) [] [dP b1]),(0,.val v0)],[.row v0 (List.map z8 t19.2) 3 49,.var b1 [.fn (.func 170) [] [dP b2,dP b3]] 170,.var b2 [.sl 2 (List.map ze a1)] 104,.var b3 [dP b4] 28,.var b4 [.val v5] 264,.row v5 (lB a2) 1 5],66⟩) (fun _ h=>h) ?_ ?_;rotate_left
 ·rintro _ rfl;show T X _ _ _;refine aS ?_;iterate 2 refine aA rfl rfl ?_
  obtain⟨x37,hx37,q8⟩:=bS q8;refine z6 (wG z8 0 hx37 Z Z Z Z Z Z (BdM.some Z) BdM.none) Z ?_;refine zy (OpR.clearM (lo:=t19.1) (hi:=(t19.2.length:Int)) z8 ((⟨[],0,false⟩:row_Row):row_Row) 0 hx37 Z Z Z Z Z Z Z Z Z (ReL.cons (Re.base .nil) (ReL.cons Re.refl (ReL.cons Re.refl ReL.nil))) Z Z) ?_;refine aN Z ?_;refine aS ?_;iterate 2 refine aA rfl rfl ?_
  obtain⟨x38,hx38,q8⟩:=bS q8;refine z6 (wG z8 0 hx38 Z Z Z Z Z Z BdM.none (BdM.some Z)) Z ?_;refine aA Z Z ?_;refine aN Z ?_;refine T.ret ?_;obtain rfl:=osi q8;obtain rfl:_=_:=i9;obtain rfl:=osi h0;exact rO [0,1,2,3,4,5] [4] Z undef (cT Z ResL.nil) Z Z Z Z
 refine T.block ?_;obtain⟨n21,n26⟩:=zw ht19;refine T.loop (fun n S'=>∃ S'',Gst S' S''∧∃ s20:Int × Int × (List row_Row),S''=⟨[(7,(dN s20.2.1)),(6,.val (vw v0 (s4:Int).toNat ((a0.length:Int):Int).toNat 3)),(5,(dN s20.1)),(4,.val (.slice none 0 0)),(1,.fn (.func 108) [] [dP b1]),(0,.val v0)],[.row v0 (List.map z8 s20.2.2) 3 49,.var b1 [.fn (.func 170) [] [dP b2,dP b3]] 170,.var b2 [.sl 2 (List.map ze a1)] 104,.var b3 [dP b4] 28,.var b4 [.val v5] 264,.row v5 (lB a2) 1 5],66⟩∧wc (zF.l1 a0 a1 a2 s4) n s20=some t19) n21 ?_ ?_
 ·exact⟨_,Gst.only [0,1,4,5,6,7] Z,(s4,1,a0),Z,n26⟩
 rintro n21 _ ⟨_,g,s20,rfl,i25⟩;refine T.ghost g ?_;obtain⟨m22,q23,rfl,q24,i25⟩:=zx i25;unfold zF.l1 at q24;refine T.seq ?_;refine aS ?_;iterate 2 refine aA rfl rfl ?_
 obtain⟨x28,hx28,q24⟩:=bS q24;refine z6 (OpR.lenF z8 (r8 z8 0 hx28 Z Z) Z Z) Z ?_;refine aA Z Z ?_;refine aN Z ?_;rcases z9 q24 with ⟨c29,q24⟩|⟨c29,q24⟩;rotate_left
 ·refine zh Z (eF c29) ?_;refine T.exit ?_;obtain rfl:=osi q24;obtain rfl:_=_:=i25;exact⟨_,Gst.only [0,1,4,5] Z,Z⟩
 refine zi Z (eT c29) ?_;refine aK Z ?_;refine T.seq ?_;refine T.block ?_;refine T.seq ?_;obtain⟨x31,hx31,q24⟩:=bS q24;obtain⟨x32,hx32,q24⟩:=bS q24;obtain⟨x33,hx33,q24⟩:=bS q24;refine yo zW [.fn (.func 108) [] [dP b1],.val (vw v0 (s4:Int).toNat ((a0.length:Int):Int).toNat 3),dN s20.2.1,.val (.pointer (some ⟨blk v0,(s4+s20.2.1).toNat*3,none⟩)),.agg [.sl 5 (List.map zo x31.fCells),dN x31.fEnd,dT x31.fHidden],.val (vw v0 (s4:Int).toNat ((a0.length:Int):Int).toNat 3),dN s20.2.1,dN (w64 (s20.2.1-1)),.val (.pointer (some ⟨blk v0,(s4+(w64 (s20.2.1-1))).toNat*3,none⟩)),.agg [.sl 5 (List.map zo x32.fCells),dN x32.fEnd,dT x32.fHidden],dT x33,dT (!x33)] [0,1,4,5,6,7,49] (by decide +kernel) Z ?_ Z ?_
 ·iterate 3 refine aB rfl rfl rfl ?_
  refine zq.yes (Want.plain Z) Z (sX (lo:=s4) (hi:=(a0.length:Int)) (j:=s20.2.1) z8 0 hx28 hx31 Z Z Z Z Z Z Z) ?_;refine zq.yes (Want.plain Z) Z (zJ (j:=s4+s20.2.1) z8 0 (idx_cut hx28 hx31) Z Z Z Z) ?_;iterate 3 refine aB rfl rfl rfl ?_
  refine zq.yes (Want.plain Z) Z (sX (lo:=s4) (hi:=(a0.length:Int)) (j:=w64 (s20.2.1-1)) z8 0 hx28 hx32 Z Z Z Z Z Z Z) ?_;refine zq.yes (Want.plain Z) Z (zJ (j:=s4+(w64 (s20.2.1-1))) z8 0 (idx_cut hx28 hx32) Z Z Z Z) ?_;refine zq.yes (Want.plain Z) Z (ux [1,2,3,4,5] Z fn108 (qq hx33) Z Z Z (fun _=>Z)) ?_;refine aB Z Z Z ?_;exact zq.nil
 show T X _ _ _;obtain⟨t34,ht34,q24⟩:=bS q24;refine zz (fun S'=>S'=⟨[(7,(dN s20.2.1)),(6,.val (vw v0 (s4:Int).toNat ((a0.length:Int):Int).toNat 3)),(5,(dN t34.1)),(4,.val (.slice none 0 0)),(1,.fn (.func 108) [] [dP b1]),(0,.val v0)],[.row v0 (List.map z8 t34.2) 3 49,.var b1 [.fn (.func 170) [] [dP b2,dP b3]] 170,.var b2 [.sl 2 (List.map ze a1)] 104,.var b3 [dP b4] 28,.var b4 [.val v5] 264,.row v5 (lB a2) 1 5],66⟩) (fun _ h=>h) ?_ ?_;rotate_left
 ·rintro _ rfl;show T X _ _ _;refine T.region ?_;iterate 3 refine aA rfl rfl ?_
  refine TL.nil ?_;obtain rfl:=osi q24;exact⟨m22,Nat.lt_succ_self _,_,Gst.only [0,1,4,5,6,7] Z,(t34.1,w64 (s20.2.1+1),t34.2),Z,i25⟩
 rcases z9 ht34 with ⟨c35,ht34⟩|⟨c35,ht34⟩
 ·refine zh Z (zS (c35)) ?_;refine T.skip ?_;obtain rfl:=osi ht34;exact⟨_,Gst.only [0,1,4,5,6,7] Z,Z⟩
 refine zi Z (yd (eN c35)) ?_;refine aS ?_;iterate 4 refine aA rfl rfl ?_
 refine z6 (sX (lo:=s4) (hi:=(a0.length:Int)) (j:=s20.2.1) z8 0 hx28 hx31 Z Z Z Z Z Z Z) Z ?_;refine z6 (zJ (j:=s4+s20.2.1) z8 0 (idx_cut hx28 hx31) Z Z Z Z) Z ?_;obtain⟨x36,hx36,ht34⟩:=bS ht34;refine z6 (zK z8 0 hx36 Z Z Z Z Z Z Z) Z ?_;refine zy (yA (j:=s20.1) z8 x31 0 hx36 Z Z Z Z Z Z Z Z Z) ?_;refine aN Z ?_;refine T.region ?_;iterate 3 refine aA rfl rfl ?_
 refine TL.nil ?_;obtain rfl:=osi ht34;exact⟨_,Gst.only [0,1,4,5,6,7] Z,Z⟩
theorem un {a0:List row_Row} {a1:List order_By} {a2:List UInt8} {v0:Value} {b1:Nat} {b2:Nat} {b3:Nat} {b4:Nat} {v5:Value} {res:Unit} (h0:zF a0 a1 a2=some (Sum.inl res)):zn X 107 [.val v0,.fn (.func 108) [] [dP b1]] [.row v0 (List.map z8 a0) 3 49,.var b1 [.fn (.func 170) [] [dP b2,dP b3]] 170,.var b2 [.sl 2 (List.map ze a1)] 104,.var b3 [dP b4] 28,.var b4 [.val v5] 264,.row v5 (lB a2) 1 5] (fun x=>.val v0) (fun x=>[.row v0 (List.map z8 a0) 3 49,.var b1 [.fn (.func 170) [] [dP b2,dP b3]] 170,.var b2 [.sl 2 (List.map ze a1)] 104,.var b3 [dP b4] 28,.var b4 [.val v5] 264,.row v5 (lB a2) 1 5]):=wH h0
theorem um {a0:List row_Row} {a1:List order_By} {a2:List UInt8} {v0:Value} {b1:Nat} {b2:Nat} {b3:Nat} {b4:Nat} {v5:Value} {res:Int × Int × (List row_Row)} (h0:zF a0 a1 a2=some (Sum.inr res)):zn X 107 [.val v0,.fn (.func 108) [] [dP b1]] [.row v0 (List.map z8 a0) 3 49,.var b1 [.fn (.func 170) [] [dP b2,dP b3]] 170,.var b2 [.sl 2 (List.map ze a1)] 104,.var b3 [dP b4] 28,.var b4 [.val v5] 264,.row v5 (lB a2) 1 5] (fun x=>.val (vw v0 (res.1:Int).toNat (res.2.1:Int).toNat 3)) (fun x=>[.row v0 (List.map z8 res.2.2) 3 49,.var b1 [.fn (.func 170) [] [dP b2,dP b3]] 170,.var b2 [.sl 2 (List.map ze a1)] 104,.var b3 [dP b4] 28,.var b4 [.val v5] 264,.row v5 (lB a2) 1 5]):=wH h0
noncomputable def pf (a0:grid_Grid) (a1:Int) (a2:List UInt8):Option Int:=
 bnd (yX a0) fun x1=>
 bnd (vk [(⟨a1,false⟩:order_By)] a2) fun x2=>
 bnd (tg x1.1 x2 a2) fun x5=>
 bnd (zF x5 x2 a2) fun x7=>
 match x7 with
| .inl x7=>
 some (x5.length:Int)
| .inr x7=>
 bnd (cut x7.2.2 x7.1 x7.2.1) fun x8=>
 some (x8.length:Int)
theorem order_Kinds_c {a0:grid_Grid} {a1:Int} {a2:List UInt8} {b0:Nat} {v1:Value} {res:Int} (h0:pf a0 a1 a2=some res):zn X 42 [.agg [(eOP a0.fRows.fRoot),dT a0.fTail,dN a0.fEnd],dP b0,dN a1] [.var b0 [.val v1] 264,.row v1 (lB a2) 1 5] (fun x=>(dN res)) (fun x=>[.var b0 [.val v1] 264,.row v1 (lB a2) 1 5]):=by
 unfold pf at h0;refine zg (X:=X) Z Tryz.func42 Z Z Tryz.ntmps42 Z Z ?_;refine aS ?_;refine z6 (zD Z Z) Z ?_;refine aA Z Z ?_;refine aN Z ?_;refine aS ?_;refine aA Z Z ?_;obtain⟨x1,hx1,h0⟩:=bS h0;refine z6 (zf fn104 (sG hx1) Z) Z ?_;iterate 5 refine aA rfl rfl ?_
 refine aN Z ?_;refine aS ?_;iterate 2 refine aA rfl rfl ?_
 refine z6 (OpR.build Z Z Z Z Z) Z ?_;refine z6 (yC Z Z Z Z Z Z Z) Z ?_;obtain⟨x2,hx2,h0⟩:=bS h0;refine TL.op (OpR.call [0,1] fn105 (tV hx2) Z Z Z (fun _=>Z)) Z (fun w3=>?_);refine TL.op (OpR.alloc Z Z (fun _=>Z)) Z (fun p4=>?_);refine zy (OpR.store 4 Z Z Z Z Z Z Z Z) ?_;refine aN Z ?_;refine aS ?_;refine aA Z Z ?_;refine z6 (z7 4 Z Z Z Z) Z ?_;obtain⟨x5,hx5,h0⟩:=bS h0;refine TL.op (OpR.call [2,3,0,1] fn106 (qO hx5) Z Z Z (fun _=>Z)) Z (fun w6=>?_);refine aA Z Z ?_;refine aN Z ?_;refine aS ?_;iterate 2 refine aA rfl rfl ?_
 obtain⟨x7,hx7,h0⟩:=bS h0;rcases x7 with x7|x7
 ·dsimp only at h0;refine z6 (OpR.call [5,4,2,3,0,1] fn107 (un hx7) Z Z Z (fun _=>Z)) Z ?_;refine z6 (yz z8 5 Z Z Z Z) Z ?_;refine aA Z Z ?_;refine aN Z ?_;refine T.ret ?_;obtain rfl:=osi h0;exact rP [0,1] [6] [0,1] Z Z Z undef (cT Z ResL.nil) Z Z Z Z
 dsimp only at h0;refine z6 (OpR.call [5,4,2,3,0,1] fn107 (um hx7) Z Z Z (fun _=>Z)) Z ?_;obtain⟨x8,hx8,h0⟩:=bS h0;refine z6 (OpR.lenF z8 (r8 z8 5 hx8 Z Z) Z Z) Z ?_;refine aA Z Z ?_;refine aN Z ?_;refine T.ret ?_;obtain rfl:=osi h0;exact rP [0,1] [6] [0,1] Z Z Z undef (cT Z ResL.nil) Z Z Z Z
noncomputable def sC:Option Bool:=
 bnd (xy [49,48,10,57,10,120,10,48,48,55]) fun x2=>
 match x2 with
| .inl x2=>
 if x2.2.1=0 then
 bnd (tx x2.1 [(⟨0,false⟩:order_By)] x2.2.2) fun x6=>
 bnd (if x6.2=0 then
 bnd (sV x6.1 x2.2.2) fun x10=>
 if x10=[48,48,55,10,57,10,49,48,10,120] then
 bnd (pf x2.1 0 x2.2.2) fun x12=>
 some (x12==4)
else
 some false
else
 some false:Option Bool) fun t8=>
 some t8
else
 some false
| .inr x2=>
 some false
theorem pJ {res:Bool} (h0:sC=some res):zn X 39 [] [] (fun x=>(dT res)) (fun x=>[]):=by
 unfold sC at h0;refine zg (X:=X) Z Tryz.func39 Z Z Tryz.ntmps39 Z Z ?_;refine aS ?_;refine aA Z Z ?_;refine aN Z ?_;refine aS ?_;refine TL.op (sj Z Z Z Z Z Z Z Z (fun _=>Z)) Z (fun v1=>?_);refine z6 (OpR.markRow 0 Z Z Z Z Z Z Z Z) Z ?_;obtain⟨x2,hx2,h0⟩:=bS h0;rcases x2 with x2|x2;rotate_left
 ·dsimp only at h0;refine z6 (zf fn67 (pL hx2) Z) Z ?_;iterate 4 refine aA rfl rfl ?_
  refine TL.op (OpR.alloc Z Z (fun _=>Z)) Z (fun p13=>?_);refine zy (OpR.store 1 Z Z Z Z Z Z Z Z) ?_;iterate 2 refine aA rfl rfl ?_
  refine aN Z ?_;refine T.seq ?_;refine aS ?_;refine aA Z Z ?_;refine z6 (qH (A:=none) Z Z Z) Z ?_;refine aA Z Z ?_;refine TL.off Z Z Z Z Z Z Z ?_;refine TL.off Z Z Z Z Z Z Z ?_;refine z6 (zt Z Z Z) Z ?_;refine aN Z ?_;refine zi Z Z ?_;refine aS ?_;refine aA Z Z ?_;refine aN Z ?_;refine T.ret ?_;obtain rfl:=osi h0;exact rP [] [0] [] Z Z Z undef (cT Z ResL.nil) Z Z Z Z
 dsimp only at h0;refine TL.op (OpR.call [] fn67 (pM hx2) Z Z Z (fun _=>Z)) Z (fun w3=>?_);iterate 4 refine aA rfl rfl ?_
 refine TL.op (OpR.alloc Z Z (fun _=>Z)) Z (fun p4=>?_);refine zy (OpR.store 3 Z Z Z Z Z Z Z Z) ?_;iterate 2 refine aA rfl rfl ?_
 refine aN Z ?_;refine T.seq ?_;refine aS ?_;refine aA Z Z ?_;refine z6 (qH (A:=some ⟨(blk (vn w3 0)),0,none⟩) Z Z Z) Z ?_;refine aA Z Z ?_;refine TL.on Z Z Z Z Z ?_;refine aA Z Z ?_;refine TL.on Z Z Z Z Z ?_;refine aA Z Z ?_;refine z6 (zu Z Z Z) Z ?_;refine aN Z ?_;rcases z9 h0 with ⟨c5,h0⟩|⟨c5,h0⟩;rotate_left
 ·refine zi Z (yd (beq_eq_false_iff_ne.2 c5)) ?_;refine aS ?_;refine aA Z Z ?_;refine aN Z ?_;refine T.ret ?_;obtain rfl:=osi h0;exact rP [] [0] [] Z Z Z undef (cT Z ResL.nil) Z Z Z Z
 refine zh Z (zS (beq_iff_eq.2 c5)) ?_;refine aK Z ?_;refine aS ?_;refine z6 (z7 3 Z Z Z Z) Z ?_;refine aA Z Z ?_;refine z6 (OpR.build Z Z Z Z Z) Z ?_;refine z6 (yC Z Z Z Z Z Z Z) Z ?_;obtain⟨x6,hx6,h0⟩:=bS h0;refine z6 (OpR.call [1,2] fn50 (order_Sort_c hx6) Z Z Z (fun _=>Z)) Z ?_;iterate 3 refine aA rfl rfl ?_
 refine TL.op (OpR.alloc Z Z (fun _=>Z)) Z (fun p7=>?_);refine zy (OpR.store 4 Z Z Z Z Z Z Z Z) ?_;refine aA Z Z ?_;refine aN Z ?_;refine T.seq ?_;obtain⟨t8,ht8,h0⟩:=bS h0;refine zz (fun S'=>S'=⟨[(0,(dT t8))],[],42⟩) (fun _ h=>h) ?_ ?_;rotate_left
 ·rintro _ rfl;show T X _ _ _;refine T.ret ?_;obtain rfl:=osi h0;exact rO [] [0] Z undef (cT Z ResL.nil) Z Z Z Z
 refine T.region ?_;iterate 3 refine aA rfl rfl ?_
 rcases z9 ht8 with ⟨c9,ht8⟩|⟨c9,ht8⟩;rotate_left
 ·refine TL.off Z Z Z Z (beq_eq_false_iff_ne.2 c9) Z Z ?_;refine TL.off Z Z Z Z (beq_eq_false_iff_ne.2 c9) Z Z ?_;refine TL.off Z Z Z Z (beq_eq_false_iff_ne.2 c9) Z Z ?_;refine TL.off Z Z Z Z (beq_eq_false_iff_ne.2 c9) Z Z ?_;refine TL.off Z Z Z Z (beq_eq_false_iff_ne.2 c9) Z Z ?_;refine z6 (zu Z (beq_eq_false_iff_ne.2 c9) Z) Z ?_;refine aA Z Z ?_;refine TL.off Z Z Z Z Z Z Z ?_;refine TL.off Z Z Z Z Z Z Z ?_;refine TL.off Z Z Z Z Z Z Z ?_;refine TL.off Z Z Z Z Z Z Z ?_;refine z6 (zu Z Z Z) Z ?_;refine aA Z Z ?_;refine TL.nil ?_;obtain rfl:=osi ht8;exact⟨_,gP [0] [] Z Z Z,Z⟩
 refine TL.on Z Z Z Z (beq_iff_eq.2 c9) ?_;refine z6 (z7 4 Z Z Z Z) Z ?_;refine TL.on Z Z Z Z (beq_iff_eq.2 c9) ?_;refine aA Z Z ?_;refine TL.on Z Z Z Z (beq_iff_eq.2 c9) ?_;obtain⟨x10,hx10,ht8⟩:=bS ht8;refine z6 (OpR.call [1,2] fn69 (grid_Grid_Save_c hx10) Z Z Z (fun _=>Z)) Z ?_;refine TL.on Z Z Z Z (beq_iff_eq.2 c9) ?_;refine z6 (OpR.toStr (bs:=x10) Z Z Z Z Z Z Z) Z ?_;refine TL.on Z Z Z Z (beq_iff_eq.2 c9) ?_;refine z6 (zk (OpR.pure Z) (boolE (strEq _ _))) Z ?_;refine z6 (zt Z (beq_iff_eq.2 c9) Z) Z ?_;refine aA Z Z ?_;rcases z9 ht8 with ⟨c11,ht8⟩|⟨c11,ht8⟩;rotate_left
 ·refine TL.off Z Z Z Z (beq_eq_false_iff_ne.2 c11) Z Z ?_;refine TL.off Z Z Z Z (beq_eq_false_iff_ne.2 c11) Z Z ?_;refine TL.off Z Z Z Z (beq_eq_false_iff_ne.2 c11) Z Z ?_;refine TL.off Z Z Z Z (beq_eq_false_iff_ne.2 c11) Z Z ?_;refine z6 (zu Z (beq_eq_false_iff_ne.2 c11) Z) Z ?_;refine aA Z Z ?_;refine TL.nil ?_;obtain rfl:=osi ht8;exact⟨_,gP [0] [] Z Z Z,Z⟩
 refine TL.on Z Z Z Z (beq_iff_eq.2 c11) ?_;refine z6 (z7 3 Z Z Z Z) Z ?_;refine TL.on Z Z Z Z (beq_iff_eq.2 c11) ?_;refine aA Z Z ?_;refine TL.on Z Z Z Z (beq_iff_eq.2 c11) ?_;obtain⟨x12,hx12,ht8⟩:=bS ht8;refine z6 (OpR.call [1,2] fn42 (order_Kinds_c hx12) Z Z Z (fun _=>Z)) Z ?_;refine TL.on Z Z Z Z (beq_iff_eq.2 c11) ?_;refine aA Z Z ?_;refine z6 (zt Z (beq_iff_eq.2 c11) Z) Z ?_;refine aA Z Z ?_;refine TL.nil ?_;obtain rfl:=osi ht8;exact⟨_,gP [0] [] Z Z Z,Z⟩
end Go.Proofs.YtpmhiiemklhbhaaGreat.S
