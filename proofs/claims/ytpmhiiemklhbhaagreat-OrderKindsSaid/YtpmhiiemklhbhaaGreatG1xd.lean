import Derived.Test.YtpmhiiemklhbhaaGreatG1xc
import Derived.Test.YtpmhiiemklhbhaaGreatG1xb
import Derived.Test.YtpmhiiemklhbhaaGreatG1xa
set_option maxHeartbeats 4000000
set_option linter.unusedVariables false
set_option linter.unusedSimpArgs false
set_option maxRecDepth 20000
namespace Go.Proofs.YtpmhiiemklhbhaaGreat.S
open Go Go.Sm
attribute [local irreducible] T TL OpR CallT iter loop
noncomputable def slices_CompactFunc_row_Row_row_Row.l1 (a0:List row_Row) (a1:List order_By) (a2:List UInt8) (s4:Int) (s20:Int × Int × (List row_Row)):Option (Lp (Int × Int × (List row_Row)) (Int × (List row_Row))):=
 bnd (cut s20.2.2 s4 (a0.length:Int)) fun x28=>
 if s20.2.1<(x28.length:Int) then
 bnd (idx x28 s20.2.1) fun x31=>
 bnd (idx x28 (w64 (s20.2.1-1))) fun x32=>
 bnd (order_Kinds_1 x31 x32 a1 a2) fun x33=>
 bnd (if x33=true then
 some (s20.1,s20.2.2)
else
 bnd (idx s20.2.2 s20.1) fun x36=>
 some (w64 (s20.1+1),(s20.2.2.set s20.1.toNat x31)):Option (Int × (List row_Row))) fun t34=>
 some (Lp.next (t34.1,w64 (s20.2.1+1),t34.2))
else
 some (Lp.done (s20.1,s20.2.2))
noncomputable def slices_CompactFunc_row_Row_row_Row.l2 (a0:List row_Row) (a1:List order_By) (a2:List UInt8) (s4:Int):Option (Lp Int (Ex Unit (Unit ⊕ (Int × Int × (List row_Row))))):=
 if s4<(a0.length:Int) then
 bnd (idx a0 s4) fun x14=>
 bnd (idx a0 (w64 (s4-1))) fun x15=>
 bnd (order_Kinds_1 x14 x15 a1 a2) fun x16=>
 if x16=true then
 bnd (cut a0 s4 (a0.length:Int)) fun x18=>
 bnd (loop (slices_CompactFunc_row_Row_row_Row.l1 a0 a1 a2 s4) (s4,1,a0):Option (Int × (List row_Row))) fun t19=>
 bnd (cut t19.2 t19.1 (t19.2.length:Int)) fun x37=>
 bnd (cut (fillZ t19.2 t19.1 (t19.2.length:Int) ((⟨[],0,false⟩:row_Row):row_Row)) 0 t19.1) fun x38=>
 some (Lp.done (Ex.ret (Sum.inr (0,t19.1,(fillZ t19.2 t19.1 (t19.2.length:Int) ((⟨[],0,false⟩:row_Row):row_Row))))))
else
 some (Lp.next (w64 (s4+1)))
else
 some (Lp.done (Ex.brk ()))
noncomputable def slices_CompactFunc_row_Row_row_Row (a0:List row_Row) (a1:List order_By) (a2:List UInt8):Option (Unit ⊕ (Int × Int × (List row_Row))):=
 if (a0.length:Int)<2 then
 some (Sum.inl ())
else
 bnd (loop (slices_CompactFunc_row_Row_row_Row.l2 a0 a1 a2) 1:Option (Ex Unit (Unit ⊕ (Int × Int × (List row_Row))))) fun t2=>match t2 with
| .brk u3=>
 some (Sum.inl ())
| .ret u3=>some u3
theorem slices_CompactFunc_row_Row_row_Row_c {a0:List row_Row} {a1:List order_By} {a2:List UInt8} {v0:Value} {b1:Nat} {b2:Nat} {b3:Nat} {b4:Nat} {v5:Value} {res:Unit ⊕ (Int × Int × (List row_Row))} (h0:slices_CompactFunc_row_Row_row_Row a0 a1 a2=some res):CallF X 107 [.val v0,.fn (.func 108) [] [dP b1]] [.row v0 (List.map e_row_Row a0) 3 49,.var b1 [.fn (.func 170) [] [dP b2,dP b3]] 170,.var b2 [.sl 2 (List.map e_order_By a1)] 104,.var b3 [dP b4] 28,.var b4 [.val v5] 264,.row v5 (lB a2) 1 5] (fun x=>(match res with | .inl res=>.val v0 | .inr res=>.val (vw v0 (res.1:Int).toNat (res.2.1:Int).toNat 3))) (fun x=>(match res with | .inl res=>[.row v0 (List.map e_row_Row a0) 3 49,.var b1 [.fn (.func 170) [] [dP b2,dP b3]] 170,.var b2 [.sl 2 (List.map e_order_By a1)] 104,.var b3 [dP b4] 28,.var b4 [.val v5] 264,.row v5 (lB a2) 1 5] | .inr res=>[.row v0 (List.map e_row_Row res.2.2) 3 49,.var b1 [.fn (.func 170) [] [dP b2,dP b3]] 170,.var b2 [.sl 2 (List.map e_order_By a1)] 104,.var b3 [dP b4] 28,.var b4 [.val v5] 264,.row v5 (lB a2) 1 5])):=by
 unfold slices_CompactFunc_row_Row_row_Row at h0;refine CallF.mkG (X:=X) rfl Tryz.func107 rfl rfl Tryz.ntmps107 rfl rfl ?_;refine aS ?_;refine aA rfl rfl ?_;refine aN rfl ?_;refine T.seq ?_;refine aS ?_;refine aA rfl rfl ?_;refine TL.op1 (OpR.rowLenM e_row_Row 0 rfl rfl rfl rfl) rfl ?_;refine aA rfl rfl ?_;refine aN rfl ?_;rcases ite_some h0 with ⟨c1,h0⟩|⟨c1,h0⟩
 ·refine T.condT rfl (eT c1) ?_;refine aS ?_;iterate 2 refine aA rfl rfl ?_
  refine aN rfl ?_;refine T.ret ?_;obtain rfl:=osi h0;exact rO [0,1,2,3,4,5] [4] rfl undef (cT rfl ResL.nil) rfl rfl rfl rfl
 refine T.condF rfl (eF c1) ?_;refine aK rfl ?_;refine T.seq ?_;refine aS ?_;refine aA rfl rfl ?_;refine aN rfl ?_;obtain⟨t2,ht2,h0⟩:=bS h0;refine T.cutC (fun S'=>∃ u3,t2=Ex.brk u3∧S'=⟨[(4,.val (.slice none 0 0)),(0,.val v0)],[.row v0 (List.map e_row_Row a0) 3 49,.var b1 [.fn (.func 170) [] [dP b2,dP b3]] 170,.var b2 [.sl 2 (List.map e_order_By a1)] 104,.var b3 [dP b4] 28,.var b4 [.val v5] 264,.row v5 (lB a2) 1 5],66⟩) (fun _ h=>h) ?_ ?_;rotate_left
 ·rintro _ ⟨u3,rfl,rfl⟩;show T X _ _ _;refine aS ?_;iterate 2 refine aA rfl rfl ?_
  refine aN rfl ?_;refine T.ret ?_;obtain rfl:=osi h0;exact rO [0,1,2,3,4,5] [4] rfl undef (cT rfl ResL.nil) rfl rfl rfl rfl
 refine T.block ?_;obtain⟨n5,n10⟩:=loop_some ht2;refine T.loop (fun n S'=>∃ S'',Gst S' S''∧∃ s4:Int,S''=⟨[(5,(dN s4)),(4,.val (.slice none 0 0)),(1,.fn (.func 108) [] [dP b1]),(0,.val v0)],[.row v0 (List.map e_row_Row a0) 3 49,.var b1 [.fn (.func 170) [] [dP b2,dP b3]] 170,.var b2 [.sl 2 (List.map e_order_By a1)] 104,.var b3 [dP b4] 28,.var b4 [.val v5] 264,.row v5 (lB a2) 1 5],66⟩∧iter (slices_CompactFunc_row_Row_row_Row.l2 a0 a1 a2) n s4=some t2) n5 ?_ ?_
 ·exact⟨_,Gst.only [0,1,4,5] rfl,1,rfl,n10⟩
 rintro n5 _ ⟨_,g,s4,rfl,i9⟩;refine T.ghost g ?_;obtain⟨m6,q7,rfl,q8,i9⟩:=iter_succ i9;unfold slices_CompactFunc_row_Row_row_Row.l2 at q8;refine T.seq ?_;refine aS ?_;iterate 2 refine aA rfl rfl ?_
 refine TL.op1 (OpR.rowLenM e_row_Row 0 rfl rfl rfl rfl) rfl ?_;refine aA rfl rfl ?_;refine aN rfl ?_;rcases ite_some q8 with ⟨c12,q8⟩|⟨c12,q8⟩;rotate_left
 ·refine T.condF rfl (eF c12) ?_;refine T.exit ?_;obtain rfl:=osi q8;obtain rfl:_=_:=i9;exact⟨_,Gst.only [0,4] rfl,_,rfl,rfl⟩
 refine T.condT rfl (eT c12) ?_;refine aK rfl ?_;refine T.seq ?_;refine T.block ?_;refine T.seq ?_;obtain⟨x14,hx14,q8⟩:=bS q8;obtain⟨x15,hx15,q8⟩:=bS q8;obtain⟨x16,hx16,q8⟩:=bS q8;refine T.drawQ drawsX [.fn (.func 108) [] [dP b1],.val v0,dN s4,.val (.pointer (some ⟨blk v0,s4.toNat*3,none⟩)),.agg [.sl 5 (List.map e_cell_Cell x14.fCells),dN x14.fEnd,dT x14.fHidden],.val v0,dN s4,dN (w64 (s4-1)),.val (.pointer (some ⟨blk v0,(w64 (s4-1)).toNat*3,none⟩)),.agg [.sl 5 (List.map e_cell_Cell x15.fCells),dN x15.fEnd,dT x15.fHidden],dT x16] [0,1,4,5,28] (by decide +kernel) rfl ?_ rfl ?_
 ·iterate 3 refine aB rfl rfl rfl ?_
  refine OpsQ.yes (Want.plain rfl) rfl (OpR.rowIndexM e_row_Row 0 hx14 rfl rfl rfl rfl rfl rfl rfl) ?_;refine OpsQ.yes (Want.plain rfl) rfl (OpR.rowLoad0M (j:=s4) e_row_Row 0 hx14 rfl rfl rfl rfl) ?_;iterate 3 refine aB rfl rfl rfl ?_
  refine OpsQ.yes (Want.plain rfl) rfl (OpR.rowIndexM e_row_Row 0 hx15 rfl rfl rfl rfl rfl rfl rfl) ?_;refine OpsQ.yes (Want.plain rfl) rfl (OpR.rowLoad0M (j:=w64 (s4-1)) e_row_Row 0 hx15 rfl rfl rfl rfl) ?_;refine OpsQ.yes (Want.plain rfl) rfl (OpR.callV [1,2,3,4,5] rfl fn108 (order_Kinds_1_c hx16) rfl rfl rfl (fun _=>rfl)) ?_;exact OpsQ.nil
 show T X _ _ _;rcases ite_some q8 with ⟨c17,q8⟩|⟨c17,q8⟩;rotate_left
 ·refine T.condF rfl (eq_false_of_ne_true c17) ?_;refine aK rfl ?_;refine T.region ?_;iterate 3 refine aA rfl rfl ?_
  refine TL.nil ?_;obtain rfl:=osi q8;exact⟨m6,Nat.lt_succ_self _,_,Gst.only [0,1,4,5] rfl,w64 (s4+1),rfl,i9⟩
 refine T.condT rfl (c17) ?_;refine aS ?_;iterate 2 refine aA rfl rfl ?_
 obtain⟨x18,hx18,q8⟩:=bS q8;refine TL.op1 (OpR.sliceRowM e_row_Row 0 hx18 rfl rfl rfl rfl rfl rfl (BdM.some rfl) BdM.none) rfl ?_;refine aA rfl rfl ?_;refine aN rfl ?_;refine T.seq ?_;refine aS ?_;refine aA rfl rfl ?_;refine aN rfl ?_;obtain⟨t19,ht19,q8⟩:=bS q8;refine T.cutC (fun S'=>S'=⟨[(5,(dN t19.1)),(4,.val (.slice none 0 0)),(1,.fn (.func 108) [] [dP b1]),(0,.val v0)],[.row v0 (List.map e_row_Row t19.2) 3 49,.var b1 [.fn (.func 170) [] [dP b2,dP b3]] 170,.var b2 [.sl 2 (List.map e_order_By a1)] 104,.var b3 [dP b4] 28,.var b4 [.val v5] 264,.row v5 (lB a2) 1 5],66⟩) (fun _ h=>h) ?_ ?_;rotate_left
 ·rintro _ rfl;show T X _ _ _;refine aS ?_;iterate 2 refine aA rfl rfl ?_
  obtain⟨x37,hx37,q8⟩:=bS q8;refine TL.op1 (OpR.sliceRowM e_row_Row 0 hx37 rfl rfl rfl rfl rfl rfl (BdM.some rfl) BdM.none) rfl ?_;refine TL.op0 (OpR.clearM (lo:=t19.1) (hi:=(t19.2.length:Int)) e_row_Row ((⟨[],0,false⟩:row_Row):row_Row) 0 hx37 rfl rfl rfl rfl rfl rfl rfl rfl rfl (ReL.cons (Re.base .nil) (ReL.cons Re.refl (ReL.cons Re.refl ReL.nil))) rfl rfl) ?_;refine aN rfl ?_;refine aS ?_;iterate 2 refine aA rfl rfl ?_
  obtain⟨x38,hx38,q8⟩:=bS q8;refine TL.op1 (OpR.sliceRowM e_row_Row 0 hx38 rfl rfl rfl rfl rfl rfl BdM.none (BdM.some rfl)) rfl ?_;refine aA rfl rfl ?_;refine aN rfl ?_;refine T.ret ?_;obtain rfl:=osi q8;obtain rfl:_=_:=i9;obtain rfl:=osi h0;exact rO [0,1,2,3,4,5] [4] rfl undef (cT rfl ResL.nil) rfl rfl rfl rfl
 refine T.block ?_;obtain⟨n21,n26⟩:=loop_some ht19;refine T.loop (fun n S'=>∃ S'',Gst S' S''∧∃ s20:Int × Int × (List row_Row),S''=⟨[(7,(dN s20.2.1)),(6,.val (vw v0 (s4:Int).toNat ((a0.length:Int):Int).toNat 3)),(5,(dN s20.1)),(4,.val (.slice none 0 0)),(1,.fn (.func 108) [] [dP b1]),(0,.val v0)],[.row v0 (List.map e_row_Row s20.2.2) 3 49,.var b1 [.fn (.func 170) [] [dP b2,dP b3]] 170,.var b2 [.sl 2 (List.map e_order_By a1)] 104,.var b3 [dP b4] 28,.var b4 [.val v5] 264,.row v5 (lB a2) 1 5],66⟩∧iter (slices_CompactFunc_row_Row_row_Row.l1 a0 a1 a2 s4) n s20=some t19) n21 ?_ ?_
 ·exact⟨_,Gst.only [0,1,4,5,6,7] rfl,(s4,1,a0),rfl,n26⟩
 rintro n21 _ ⟨_,g,s20,rfl,i25⟩;refine T.ghost g ?_;obtain⟨m22,q23,rfl,q24,i25⟩:=iter_succ i25;unfold slices_CompactFunc_row_Row_row_Row.l1 at q24;refine T.seq ?_;refine aS ?_;iterate 2 refine aA rfl rfl ?_
 obtain⟨x28,hx28,q24⟩:=bS q24;refine TL.op1 (OpR.lenF e_row_Row (Src.viewM e_row_Row 0 hx28 rfl rfl) rfl rfl) rfl ?_;refine aA rfl rfl ?_;refine aN rfl ?_;rcases ite_some q24 with ⟨c29,q24⟩|⟨c29,q24⟩;rotate_left
 ·refine T.condF rfl (eF c29) ?_;refine T.exit ?_;obtain rfl:=osi q24;obtain rfl:_=_:=i25;exact⟨_,Gst.only [0,1,4,5] rfl,rfl⟩
 refine T.condT rfl (eT c29) ?_;refine aK rfl ?_;refine T.seq ?_;refine T.block ?_;refine T.seq ?_;obtain⟨x31,hx31,q24⟩:=bS q24;obtain⟨x32,hx32,q24⟩:=bS q24;obtain⟨x33,hx33,q24⟩:=bS q24;refine T.drawQ drawsX [.fn (.func 108) [] [dP b1],.val (vw v0 (s4:Int).toNat ((a0.length:Int):Int).toNat 3),dN s20.2.1,.val (.pointer (some ⟨blk v0,(s4+s20.2.1).toNat*3,none⟩)),.agg [.sl 5 (List.map e_cell_Cell x31.fCells),dN x31.fEnd,dT x31.fHidden],.val (vw v0 (s4:Int).toNat ((a0.length:Int):Int).toNat 3),dN s20.2.1,dN (w64 (s20.2.1-1)),.val (.pointer (some ⟨blk v0,(s4+(w64 (s20.2.1-1))).toNat*3,none⟩)),.agg [.sl 5 (List.map e_cell_Cell x32.fCells),dN x32.fEnd,dT x32.fHidden],dT x33,dT (!x33)] [0,1,4,5,6,7,49] (by decide +kernel) rfl ?_ rfl ?_
 ·iterate 3 refine aB rfl rfl rfl ?_
  refine OpsQ.yes (Want.plain rfl) rfl (OpR.viewIndexM (lo:=s4) (hi:=(a0.length:Int)) (j:=s20.2.1) e_row_Row 0 hx28 hx31 rfl rfl rfl rfl rfl rfl rfl) ?_;refine OpsQ.yes (Want.plain rfl) rfl (OpR.rowLoad0M (j:=s4+s20.2.1) e_row_Row 0 (idx_cut hx28 hx31) rfl rfl rfl rfl) ?_;iterate 3 refine aB rfl rfl rfl ?_
  refine OpsQ.yes (Want.plain rfl) rfl (OpR.viewIndexM (lo:=s4) (hi:=(a0.length:Int)) (j:=w64 (s20.2.1-1)) e_row_Row 0 hx28 hx32 rfl rfl rfl rfl rfl rfl rfl) ?_;refine OpsQ.yes (Want.plain rfl) rfl (OpR.rowLoad0M (j:=s4+(w64 (s20.2.1-1))) e_row_Row 0 (idx_cut hx28 hx32) rfl rfl rfl rfl) ?_;refine OpsQ.yes (Want.plain rfl) rfl (OpR.callV [1,2,3,4,5] rfl fn108 (order_Kinds_1_c hx33) rfl rfl rfl (fun _=>rfl)) ?_;refine aB rfl rfl rfl ?_;exact OpsQ.nil
 show T X _ _ _;obtain⟨t34,ht34,q24⟩:=bS q24;refine T.cutC (fun S'=>S'=⟨[(7,(dN s20.2.1)),(6,.val (vw v0 (s4:Int).toNat ((a0.length:Int):Int).toNat 3)),(5,(dN t34.1)),(4,.val (.slice none 0 0)),(1,.fn (.func 108) [] [dP b1]),(0,.val v0)],[.row v0 (List.map e_row_Row t34.2) 3 49,.var b1 [.fn (.func 170) [] [dP b2,dP b3]] 170,.var b2 [.sl 2 (List.map e_order_By a1)] 104,.var b3 [dP b4] 28,.var b4 [.val v5] 264,.row v5 (lB a2) 1 5],66⟩) (fun _ h=>h) ?_ ?_;rotate_left
 ·rintro _ rfl;show T X _ _ _;refine T.region ?_;iterate 3 refine aA rfl rfl ?_
  refine TL.nil ?_;obtain rfl:=osi q24;exact⟨m22,Nat.lt_succ_self _,_,Gst.only [0,1,4,5,6,7] rfl,(t34.1,w64 (s20.2.1+1),t34.2),rfl,i25⟩
 rcases ite_some ht34 with ⟨c35,ht34⟩|⟨c35,ht34⟩
 ·refine T.condF rfl (not_t (c35)) ?_;refine T.skip ?_;obtain rfl:=osi ht34;exact⟨_,Gst.only [0,1,4,5,6,7] rfl,rfl⟩
 refine T.condT rfl (not_f (eq_false_of_ne_true c35)) ?_;refine aS ?_;iterate 4 refine aA rfl rfl ?_
 refine TL.op1 (OpR.viewIndexM (lo:=s4) (hi:=(a0.length:Int)) (j:=s20.2.1) e_row_Row 0 hx28 hx31 rfl rfl rfl rfl rfl rfl rfl) rfl ?_;refine TL.op1 (OpR.rowLoad0M (j:=s4+s20.2.1) e_row_Row 0 (idx_cut hx28 hx31) rfl rfl rfl rfl) rfl ?_;obtain⟨x36,hx36,ht34⟩:=bS ht34;refine TL.op1 (OpR.rowIndexM e_row_Row 0 hx36 rfl rfl rfl rfl rfl rfl rfl) rfl ?_;refine TL.op0 (OpR.rowStore0M (j:=s20.1) e_row_Row x31 0 hx36 rfl rfl rfl rfl rfl rfl rfl rfl rfl) ?_;refine aN rfl ?_;refine T.region ?_;iterate 3 refine aA rfl rfl ?_
 refine TL.nil ?_;obtain rfl:=osi ht34;exact⟨_,Gst.only [0,1,4,5,6,7] rfl,rfl⟩
theorem slices_CompactFunc_row_Row_row_Row_cx1 {a0:List row_Row} {a1:List order_By} {a2:List UInt8} {v0:Value} {b1:Nat} {b2:Nat} {b3:Nat} {b4:Nat} {v5:Value} {res:Unit} (h0:slices_CompactFunc_row_Row_row_Row a0 a1 a2=some (Sum.inl res)):CallF X 107 [.val v0,.fn (.func 108) [] [dP b1]] [.row v0 (List.map e_row_Row a0) 3 49,.var b1 [.fn (.func 170) [] [dP b2,dP b3]] 170,.var b2 [.sl 2 (List.map e_order_By a1)] 104,.var b3 [dP b4] 28,.var b4 [.val v5] 264,.row v5 (lB a2) 1 5] (fun x=>.val v0) (fun x=>[.row v0 (List.map e_row_Row a0) 3 49,.var b1 [.fn (.func 170) [] [dP b2,dP b3]] 170,.var b2 [.sl 2 (List.map e_order_By a1)] 104,.var b3 [dP b4] 28,.var b4 [.val v5] 264,.row v5 (lB a2) 1 5]):=slices_CompactFunc_row_Row_row_Row_c h0
theorem slices_CompactFunc_row_Row_row_Row_cx2 {a0:List row_Row} {a1:List order_By} {a2:List UInt8} {v0:Value} {b1:Nat} {b2:Nat} {b3:Nat} {b4:Nat} {v5:Value} {res:Int × Int × (List row_Row)} (h0:slices_CompactFunc_row_Row_row_Row a0 a1 a2=some (Sum.inr res)):CallF X 107 [.val v0,.fn (.func 108) [] [dP b1]] [.row v0 (List.map e_row_Row a0) 3 49,.var b1 [.fn (.func 170) [] [dP b2,dP b3]] 170,.var b2 [.sl 2 (List.map e_order_By a1)] 104,.var b3 [dP b4] 28,.var b4 [.val v5] 264,.row v5 (lB a2) 1 5] (fun x=>.val (vw v0 (res.1:Int).toNat (res.2.1:Int).toNat 3)) (fun x=>[.row v0 (List.map e_row_Row res.2.2) 3 49,.var b1 [.fn (.func 170) [] [dP b2,dP b3]] 170,.var b2 [.sl 2 (List.map e_order_By a1)] 104,.var b3 [dP b4] 28,.var b4 [.val v5] 264,.row v5 (lB a2) 1 5]):=slices_CompactFunc_row_Row_row_Row_c h0
noncomputable def order_Kinds (a0:grid_Grid) (a1:Int) (a2:List UInt8):Option Int:=
 bnd (order_visible a0) fun x1=>
 bnd (order_standing [(⟨a1,false⟩:order_By)] a2) fun x2=>
 bnd (merge_Sort_row_Row x1.1 x2 a2) fun x5=>
 bnd (slices_CompactFunc_row_Row_row_Row x5 x2 a2) fun x7=>
 match x7 with
| .inl x7=>
 some (x5.length:Int)
| .inr x7=>
 bnd (cut x7.2.2 x7.1 x7.2.1) fun x8=>
 some (x8.length:Int)
theorem order_Kinds_c {a0:grid_Grid} {a1:Int} {a2:List UInt8} {b0:Nat} {v1:Value} {res:Int} (h0:order_Kinds a0 a1 a2=some res):CallF X 42 [.agg [(eOP a0.fRows.fRoot),dT a0.fTail,dN a0.fEnd],dP b0,dN a1] [.var b0 [.val v1] 264,.row v1 (lB a2) 1 5] (fun x=>(dN res)) (fun x=>[.var b0 [.val v1] 264,.row v1 (lB a2) 1 5]):=by
 unfold order_Kinds at h0;refine CallF.mkG (X:=X) rfl Tryz.func42 rfl rfl Tryz.ntmps42 rfl rfl ?_;refine aS ?_;refine TL.op1 (OpR.boxImm rfl rfl) rfl ?_;refine aA rfl rfl ?_;refine aN rfl ?_;refine aS ?_;refine aA rfl rfl ?_;obtain⟨x1,hx1,h0⟩:=bS h0;refine TL.op1 (OpR.call0 fn104 (order_visible_c hx1) rfl) rfl ?_;iterate 5 refine aA rfl rfl ?_
 refine aN rfl ?_;refine aS ?_;iterate 2 refine aA rfl rfl ?_
 refine TL.op1 (OpR.build rfl rfl rfl rfl rfl) rfl ?_;refine TL.op1 (OpR.lit rfl rfl rfl rfl rfl rfl rfl) rfl ?_;obtain⟨x2,hx2,h0⟩:=bS h0;refine TL.op (OpR.call [0,1] fn105 (order_standing_c hx2) rfl rfl rfl (fun _=>rfl)) rfl (fun w3=>?_);refine TL.op (OpR.alloc rfl rfl (fun _=>rfl)) rfl (fun p4=>?_);refine TL.op0 (OpR.store 4 rfl rfl rfl rfl rfl rfl rfl rfl) ?_;refine aN rfl ?_;refine aS ?_;refine aA rfl rfl ?_;refine TL.op1 (OpR.loadPtr 4 rfl rfl rfl rfl) rfl ?_;obtain⟨x5,hx5,h0⟩:=bS h0;refine TL.op (OpR.call [2,3,0,1] fn106 (merge_Sort_row_Row_c hx5) rfl rfl rfl (fun _=>rfl)) rfl (fun w6=>?_);refine aA rfl rfl ?_;refine aN rfl ?_;refine aS ?_;iterate 2 refine aA rfl rfl ?_
 obtain⟨x7,hx7,h0⟩:=bS h0;rcases x7 with x7|x7
 ·dsimp only at h0;refine TL.op1 (OpR.call [5,4,2,3,0,1] fn107 (slices_CompactFunc_row_Row_row_Row_cx1 hx7) rfl rfl rfl (fun _=>rfl)) rfl ?_;refine TL.op1 (OpR.rowLenM e_row_Row 5 rfl rfl rfl rfl) rfl ?_;refine aA rfl rfl ?_;refine aN rfl ?_;refine T.ret ?_;obtain rfl:=osi h0;exact rP [0,1] [6] [0,1] rfl rfl rfl undef (cT rfl ResL.nil) rfl rfl rfl rfl
 dsimp only at h0;refine TL.op1 (OpR.call [5,4,2,3,0,1] fn107 (slices_CompactFunc_row_Row_row_Row_cx2 hx7) rfl rfl rfl (fun _=>rfl)) rfl ?_;obtain⟨x8,hx8,h0⟩:=bS h0;refine TL.op1 (OpR.lenF e_row_Row (Src.viewM e_row_Row 5 hx8 rfl rfl) rfl rfl) rfl ?_;refine aA rfl rfl ?_;refine aN rfl ?_;refine T.ret ?_;obtain rfl:=osi h0;exact rP [0,1] [6] [0,1] rfl rfl rfl undef (cT rfl ResL.nil) rfl rfl rfl rfl
noncomputable def order_Right_1 (a0:order_By):Option Bool:=
 bnd (if a0.fCol<0 then
 some true
else
 some (decide (a0.fCol≥40)):Option Bool) fun t1=>
 some t1
theorem order_Right_1_c {a0:order_By} {res:Bool} (h0:order_Right_1 a0=some res):CallF X 124 [.agg [dN a0.fCol,dT a0.fDown]] [] (fun x=>(dT res)) (fun x=>[]):=by
 unfold order_Right_1 at h0;refine CallF.mkG (X:=X) rfl Tryz.func124 rfl rfl Tryz.ntmps124 rfl rfl ?_;refine aS ?_;refine TL.op1 (OpR.boxImm rfl rfl) rfl ?_;refine aA rfl rfl ?_;refine aN rfl ?_;refine T.seq ?_;obtain⟨t1,ht1,h0⟩:=bS h0;refine T.cutC (fun S'=>S'=⟨[(2,(dT t1))],[],11⟩) (fun _ h=>h) ?_ ?_;rotate_left
 ·rintro _ rfl;show T X _ _ _;refine T.ret ?_;obtain rfl:=osi h0;exact rO [] [2] rfl undef (cT rfl ResL.nil) rfl rfl rfl rfl
 refine T.region ?_;iterate 4 refine aA rfl rfl ?_
 rcases ite_some ht1 with ⟨c2,ht1⟩|⟨c2,ht1⟩
 ·refine TL.off rfl rfl rfl rfl (eT c2) rfl rfl ?_;refine TL.off rfl rfl rfl rfl (eT c2) rfl rfl ?_;refine TL.off rfl rfl rfl rfl (eT c2) rfl rfl ?_;refine TL.op1 (OpR.pickT rfl (eT c2) rfl) rfl ?_;refine aA rfl rfl ?_;refine TL.nil ?_;obtain rfl:=osi ht1;exact⟨_,Gst.only [2] rfl,rfl⟩
 refine TL.on rfl rfl rfl rfl (eF c2) ?_;refine aA rfl rfl ?_;refine TL.on rfl rfl rfl rfl (eF c2) ?_;refine aA rfl rfl ?_;refine TL.on rfl rfl rfl rfl (eF c2) ?_;refine aA rfl rfl ?_;refine TL.op1 (OpR.pickF rfl (eF c2) rfl) rfl ?_;refine aA rfl rfl ?_;refine TL.nil ?_;obtain rfl:=osi ht1;exact⟨_,Gst.only [2] rfl,rfl⟩
noncomputable def slices_IndexFunc_order_By_order_By.l1 (a0:List order_By) (s3:Int):Option (Lp Int (Ex Unit Int)):=
 if s3<(a0.length:Int) then
 bnd (idx a0 s3) fun x12=>
 bnd (order_Right_1 x12) fun x13=>
 if x13=true then
 some (Lp.done (Ex.ret s3))
else
 some (Lp.next (w64 (s3+1)))
else
 some (Lp.done (Ex.brk ()))
noncomputable def slices_IndexFunc_order_By_order_By (a0:List order_By):Option Int:=
 bnd (loop (slices_IndexFunc_order_By_order_By.l1 a0) 0:Option (Ex Unit Int)) fun t1=>match t1 with
| .brk u2=>
 some (-1)
| .ret u2=>some u2
theorem slices_IndexFunc_order_By_order_By_c {a0:List order_By} {res:Int} (h0:slices_IndexFunc_order_By_order_By a0=some res):CallF X 188 [.sl 2 (List.map e_order_By a0),.fn (.func 124) [] []] [] (fun x=>(dN res)) (fun x=>[]):=by
 unfold slices_IndexFunc_order_By_order_By at h0;refine CallF.mkG (X:=X) rfl Tryz.func188 rfl rfl Tryz.ntmps188 rfl rfl ?_;refine aS ?_;refine aA rfl rfl ?_;refine aN rfl ?_;refine T.seq ?_;refine aS ?_;refine aA rfl rfl ?_;refine TL.op1 (OpR.cast (OpR.pure rfl) (intE (lenM _ _))) rfl ?_;refine aA rfl rfl ?_;refine aN rfl ?_;obtain⟨t1,ht1,h0⟩:=bS h0;refine T.cutC (fun S'=>∃ u2,t1=Ex.brk u2∧S'=⟨[(4,(dN 0))],[],19⟩) (fun _ h=>h) ?_ ?_;rotate_left
 ·rintro _ ⟨u2,rfl,rfl⟩;show T X _ _ _;refine aS ?_;refine aA rfl rfl ?_;refine aN rfl ?_;refine T.ret ?_;obtain rfl:=osi h0;exact rO [] [4] rfl undef (cT rfl ResL.nil) rfl rfl rfl rfl
 refine T.block ?_;obtain⟨n4,n9⟩:=loop_some ht1;refine T.loop (fun n S'=>∃ S'',Gst S' S''∧∃ s3:Int,S''=⟨[(8,(dN s3)),(7,(dN (a0.length:Int))),(4,(dN 0)),(1,.fn (.func 124) [] []),(0,.sl 2 (List.map e_order_By a0))],[],19⟩∧iter (slices_IndexFunc_order_By_order_By.l1 a0) n s3=some t1) n4 ?_ ?_
 ·exact⟨_,Gst.only [0,1,4,7,8] rfl,0,rfl,n9⟩
 rintro n4 _ ⟨_,g,s3,rfl,i8⟩;refine T.ghost g ?_;obtain⟨m5,q6,rfl,q7,i8⟩:=iter_succ i8;unfold slices_IndexFunc_order_By_order_By.l1 at q7;refine aS ?_;refine aA rfl rfl ?_;refine aN rfl ?_;refine T.seq ?_;rcases ite_some q7 with ⟨c11,q7⟩|⟨c11,q7⟩;rotate_left
 ·refine T.condF rfl (eF c11) ?_;refine T.exit ?_;obtain rfl:=osi q7;obtain rfl:_=_:=i8;exact⟨_,Gst.only [4] rfl,_,rfl,rfl⟩
 refine T.condT rfl (eT c11) ?_;refine aK rfl ?_;refine T.seq ?_;refine T.block ?_;refine aS ?_;iterate 2 refine aA rfl rfl ?_
 refine aN rfl ?_;refine aS ?_;iterate 3 refine aA rfl rfl ?_
 obtain⟨x12,hx12,q7⟩:=bS q7;refine TL.op1 (OpR.indexM e_order_By hx12 rfl rfl rfl rfl rfl) rfl ?_;refine aA rfl rfl ?_;obtain⟨x13,hx13,q7⟩:=bS q7;refine TL.op1 (OpR.callV [] rfl fn124 (order_Right_1_c hx13) rfl rfl rfl (fun _=>rfl)) rfl ?_;refine aN rfl ?_;rcases ite_some q7 with ⟨c14,q7⟩|⟨c14,q7⟩;rotate_left
 ·refine T.condF rfl (eq_false_of_ne_true c14) ?_;refine aK rfl ?_;refine T.region ?_;iterate 2 refine aA rfl rfl ?_
  refine TL.nil ?_;obtain rfl:=osi q7;exact⟨m5,Nat.lt_succ_self _,_,Gst.only [0,1,4,7,8] rfl,w64 (s3+1),rfl,i8⟩
 refine T.condT rfl (c14) ?_;refine aS ?_;iterate 2 refine aA rfl rfl ?_
 refine aN rfl ?_;refine T.ret ?_;obtain rfl:=osi q7;obtain rfl:_=_:=i8;obtain rfl:=osi h0;exact rO [] [4] rfl undef (cT rfl ResL.nil) rfl rfl rfl rfl
noncomputable def slices_ContainsFunc_order_By_order_By (a0:List order_By):Option Bool:=
 bnd (slices_IndexFunc_order_By_order_By a0) fun x1=>
 some (decide (x1≥0))
theorem slices_ContainsFunc_order_By_order_By_c {a0:List order_By} {res:Bool} (h0:slices_ContainsFunc_order_By_order_By a0=some res):CallF X 125 [.sl 2 (List.map e_order_By a0),.fn (.func 124) [] []] [] (fun x=>(dT res)) (fun x=>[]):=by
 unfold slices_ContainsFunc_order_By_order_By at h0;refine CallF.mkG (X:=X) rfl Tryz.func125 rfl rfl Tryz.ntmps125 rfl rfl ?_;refine aS ?_;refine aA rfl rfl ?_;refine aN rfl ?_;refine aS ?_;iterate 2 refine aA rfl rfl ?_
 obtain⟨x1,hx1,h0⟩:=bS h0;refine TL.op1 (OpR.call0 fn188 (slices_IndexFunc_order_By_order_By_c hx1) rfl) rfl ?_;iterate 2 refine aA rfl rfl ?_
 refine aN rfl ?_;refine T.ret ?_;obtain rfl:=osi h0;exact rO [] [4] rfl undef (cT rfl ResL.nil) rfl rfl rfl rfl
noncomputable def order_Right (a0:List order_By):Option Bool:=
 bnd (if (a0.length:Int)>0 then
 bnd (slices_ContainsFunc_order_By_order_By a0) fun x3=>
 some (!x3)
else
 some false:Option Bool) fun t1=>
 some t1
theorem order_Right_c {a0:List order_By} {res:Bool} (h0:order_Right a0=some res):CallF X 56 [.sl 2 (List.map e_order_By a0)] [] (fun x=>(dT res)) (fun x=>[]):=by
 unfold order_Right at h0;refine CallF.mkG (X:=X) rfl Tryz.func56 rfl rfl Tryz.ntmps56 rfl rfl ?_;refine aS ?_;refine aA rfl rfl ?_;refine aN rfl ?_;refine aS ?_;refine aA rfl rfl ?_;refine aN rfl ?_;refine T.seq ?_;obtain⟨t1,ht1,h0⟩:=bS h0;refine T.cutC (fun S'=>S'=⟨[(2,(dT t1))],[],13⟩) (fun _ h=>h) ?_ ?_;rotate_left
 ·rintro _ rfl;show T X _ _ _;refine T.ret ?_;obtain rfl:=osi h0;exact rO [] [2] rfl undef (cT rfl ResL.nil) rfl rfl rfl rfl
 refine T.region ?_;refine aA rfl rfl ?_;refine TL.op1 (OpR.cast (OpR.pure rfl) (intE (lenM _ _))) rfl ?_;iterate 2 refine aA rfl rfl ?_
 rcases ite_some ht1 with ⟨c2,ht1⟩|⟨c2,ht1⟩;rotate_left
 ·refine TL.off rfl rfl rfl rfl (eF c2) rfl rfl ?_;refine TL.off rfl rfl rfl rfl (eF c2) rfl rfl ?_;refine TL.off rfl rfl rfl rfl (eF c2) rfl rfl ?_;refine TL.off rfl rfl rfl rfl (eF c2) rfl rfl ?_;refine TL.op1 (OpR.pickF rfl (eF c2) rfl) rfl ?_;refine aA rfl rfl ?_;refine TL.nil ?_;obtain rfl:=osi ht1;exact⟨_,Gst.only [2] rfl,rfl⟩
 refine TL.on rfl rfl rfl rfl (eT c2) ?_;refine aA rfl rfl ?_;refine TL.on rfl rfl rfl rfl (eT c2) ?_;refine aA rfl rfl ?_;refine TL.on rfl rfl rfl rfl (eT c2) ?_;obtain⟨x3,hx3,ht1⟩:=bS ht1;refine TL.op1 (OpR.call0 fn125 (slices_ContainsFunc_order_By_order_By_c hx3) rfl) rfl ?_;refine TL.on rfl rfl rfl rfl (eT c2) ?_;refine aA rfl rfl ?_;refine TL.op1 (OpR.pickT rfl (eT c2) rfl) rfl ?_;refine aA rfl rfl ?_;refine TL.nil ?_;obtain rfl:=osi ht1;exact⟨_,Gst.only [2] rfl,rfl⟩
noncomputable def merge_Perm_row_Row_1 (a0:Int) (a1:Int) (a2:List row_Row) (a3:List order_By) (a4:List UInt8):Option Int:=
 bnd (idx a2 a0) fun x2=>
 bnd (idx a2 a1) fun x3=>
 bnd (order_standing_1 x2 x3 a3 a4) fun x4=>
 some x4
theorem merge_Perm_row_Row_1_c {a0:Int} {a1:Int} {a2:List row_Row} {a3:List order_By} {a4:List UInt8} {b0:Nat} {b1:Nat} {b2:Nat} {b3:Nat} {b4:Nat} {v5:Value} {res:Int} (h0:merge_Perm_row_Row_1 a0 a1 a2 a3 a4=some res):CallF X 190 [dN a0,dN a1,dP b0,dP b1] [.var b0 [.fn (.func 170) [] [dP b2,dP b3]] 170,.var b1 [.sl 3 (List.map e_row_Row a2)] 163,.var b2 [.sl 2 (List.map e_order_By a3)] 104,.var b3 [dP b4] 28,.var b4 [.val v5] 264,.row v5 (lB a4) 1 5] (fun x=>(dN res)) (fun x=>[.var b0 [.fn (.func 170) [] [dP b2,dP b3]] 170,.var b1 [.sl 3 (List.map e_row_Row a2)] 163,.var b2 [.sl 2 (List.map e_order_By a3)] 104,.var b3 [dP b4] 28,.var b4 [.val v5] 264,.row v5 (lB a4) 1 5]):=by
 unfold merge_Perm_row_Row_1 at h0;refine CallF.mkG (X:=X) rfl Tryz.func190 rfl rfl Tryz.ntmps190 rfl rfl ?_;refine aS ?_;refine aA rfl rfl ?_;refine aN rfl ?_;refine T.seq ?_;obtain⟨x2,hx2,h0⟩:=bS h0;obtain⟨x3,hx3,h0⟩:=bS h0;obtain⟨x4,hx4,h0⟩:=bS h0;refine T.drawQ drawsX [.fn (.func 170) [] [dP b2,dP b3],.sl 3 (List.map e_row_Row a2),dN a0,.nod [.sl 5 (List.map e_cell_Cell x2.fCells),dN x2.fEnd,dT x2.fHidden],.agg [.sl 5 (List.map e_cell_Cell x2.fCells),dN x2.fEnd,dT x2.fHidden],.sl 3 (List.map e_row_Row a2),dN a1,.nod [.sl 5 (List.map e_cell_Cell x3.fCells),dN x3.fEnd,dT x3.fHidden],.agg [.sl 5 (List.map e_cell_Cell x3.fCells),dN x3.fEnd,dT x3.fHidden],dN x4,dN x4] [6] (by decide +kernel) rfl ?_ rfl ?_;rotate_left
 ·show T X _ _ _;refine T.ret ?_;obtain rfl:=osi h0;exact rO [0,1,2,3,4,5] [6] rfl undef (cT rfl ResL.nil) rfl rfl rfl rfl
 refine OpsQ.yes (Want.plain rfl) rfl (OpR.loadPtr 0 rfl rfl rfl rfl) ?_;refine OpsQ.yes (Want.plain rfl) rfl (OpR.loadPtr 1 rfl rfl rfl rfl) ?_;refine aB rfl rfl rfl ?_;refine OpsQ.yes (Want.plain rfl) rfl (OpR.indexM e_row_Row hx2 rfl rfl rfl rfl rfl) ?_;refine aB rfl rfl rfl ?_;refine OpsQ.yes (Want.plain rfl) rfl (OpR.loadPtr 1 rfl rfl rfl rfl) ?_;refine aB rfl rfl rfl ?_;refine OpsQ.yes (Want.plain rfl) rfl (OpR.indexM e_row_Row hx3 rfl rfl rfl rfl rfl) ?_;refine aB rfl rfl rfl ?_;refine OpsQ.yes (Want.plain rfl) rfl (OpR.callV [2,3,4,5] rfl fn170 (order_standing_1_c hx4) rfl rfl rfl (fun _=>rfl)) ?_;refine aB rfl rfl rfl ?_;exact OpsQ.nil
noncomputable def slices_Clone_int_int (a0:Int) (a1:Int) (a2:List Int):Option (List Int):=
 bnd (cut a2 a0 a1) fun x1=>
 bnd (app 8 [] x1) fun x6=>
 some x6
theorem slices_Clone_int_int_c {a0:Int} {a1:Int} {a2:List Int} {v0:Value} {res:(List Int)} (h0:slices_Clone_int_int a0 a1 a2=some res):CallF X 251 [.val (vw v0 (a0:Int).toNat (a1:Int).toNat 1)] [.row v0 (List.map (eI .i64) a2) 1 3] (fun x=>.val (vn x 0)) (fun x=>[.row v0 (List.map (eI .i64) a2) 1 3,.row (vn x 0) (List.map (eI .i64) res) 1 3]):=by
 unfold slices_Clone_int_int at h0;refine CallF.mkG (X:=X) rfl Tryz.func251 rfl rfl Tryz.ntmps251 rfl rfl ?_;refine aS ?_;refine aA rfl rfl ?_;refine aN rfl ?_;refine T.seq ?_;refine aS ?_;refine aA rfl rfl ?_;obtain⟨x1,hx1,h0⟩:=bS h0;refine TL.isNilS (Src.viewM (eI .i64) 0 hx1 rfl rfl) rfl rfl rfl (fun b2 e3=>?_);refine aN rfl ?_;rcases Bool.eq_false_or_eq_true b2 with c4|c4
 ·obtain rfl:=map_nil_of (e3 c4);rw[app_nil] at h0;refine T.condT rfl (c4) ?_;refine aS ?_;refine aA rfl rfl ?_;refine aN rfl ?_;refine T.ret ?_;obtain rfl:=osi h0;exact PostG.retP (ks:=[0,1]) (Gst.trans (Gst.only [2] rfl) (Gst.nilRow (ow:=[.row v0 (List.map (eI .i64) a2) 1 3]) 1 3 rfl)) (.tuple #[(.slice none 0 0)]) (cT rfl ResL.nil) rfl rfl rfl rfl
 refine T.condF rfl (c4) ?_;refine aK rfl ?_;refine aS ?_;refine TL.op (OpR.litRow rfl rfl rfl rfl rfl rfl rfl rfl (fun _=>rfl)) rfl (fun v5=>?_);refine aA rfl rfl ?_;obtain⟨x6,hx6,h0⟩:=bS h0;refine TL.op (OpR.appendF (m:=x1) (eI .i64) 1 hx6 (Src.viewM (eI .i64) 0 hx1 rfl rfl) rfl rfl rfl rfl rfl rfl rfl rfl (fun _=>rfl)) rfl (fun v7=>?_);refine aA rfl rfl ?_;refine aN rfl ?_;refine T.ret ?_;obtain rfl:=osi h0;exact rO [0,1] [2] rfl (.tuple #[v7]) (cT rfl ResL.nil) rfl rfl rfl rfl
noncomputable def merge_Runs_int.l1 (a0:List Int) (a1:List row_Row) (a2:List order_By) (a3:List UInt8) (s4:Int × Int × (List (List Int))):Option (Lp (Int × Int × (List (List Int))) (List (List Int))):=
 if s4.2.1<(a0.length:Int) then
 bnd (bnd (if (w64 (s4.2.1+1))<(a0.length:Int) then
 bnd (idx a0 s4.2.1) fun x18=>
 bnd (idx a0 (w64 (s4.2.1+1))) fun x19=>
 bnd (merge_Perm_row_Row_1 x18 x19 a1 a2 a3) fun x20=>
 some (decide (x20≤0))
else
 some false:Option Bool) fun t15=>
 if t15=true then
 some (s4.1,s4.2.2)
else
 bnd (cut a0 s4.1 (w64 (s4.2.1+1))) fun x22=>
 bnd (slices_Clone_int_int s4.1 (w64 (s4.2.1+1)) a0) fun x23=>
 bnd (app 24 s4.2.2 [x23]) fun x25=>
 some (w64 (s4.2.1+1),x25):Option (Int × (List (List Int)))) fun t13=>
 some (Lp.next (t13.1,w64 (s4.2.1+1),t13.2))
else
 some (Lp.done s4.2.2)
noncomputable def merge_Runs_int (a0:List Int) (a1:List row_Row) (a2:List order_By) (a3:List UInt8):Option (List (List Int)):=
 bnd (loop (merge_Runs_int.l1 a0 a1 a2 a3) (0,0,[]):Option (List (List Int))) fun t1=>
 some t1
theorem merge_Runs_int_c {a0:List Int} {a1:List row_Row} {a2:List order_By} {a3:List UInt8} {v0:Value} {b1:Nat} {b2:Nat} {b3:Nat} {b4:Nat} {b5:Nat} {v6:Value} {res:(List (List Int))} (h0:merge_Runs_int a0 a1 a2 a3=some res):CallF X 224 [.val v0,.fn (.func 190) [] [dP b1,dP b2]] [.row v0 (List.map (eI .i64) a0) 1 3,.var b1 [.fn (.func 170) [] [dP b3,dP b4]] 170,.var b2 [.sl 3 (List.map e_row_Row a1)] 163,.var b3 [.sl 2 (List.map e_order_By a2)] 104,.var b4 [dP b5] 28,.var b5 [.val v6] 264,.row v6 (lB a3) 1 5] (fun x=>.sl 1 (List.map e_sl76 res)) (fun x=>[.row v0 (List.map (eI .i64) a0) 1 3,.var b1 [.fn (.func 170) [] [dP b3,dP b4]] 170,.var b2 [.sl 3 (List.map e_row_Row a1)] 163,.var b3 [.sl 2 (List.map e_order_By a2)] 104,.var b4 [dP b5] 28,.var b5 [.val v6] 264,.row v6 (lB a3) 1 5]):=by
 unfold merge_Runs_int at h0;refine CallF.mkG (X:=X) rfl Tryz.func224 rfl rfl Tryz.ntmps224 rfl rfl ?_;refine aS ?_;refine aA rfl rfl ?_;refine aN rfl ?_;refine aS ?_;refine aA rfl rfl ?_;refine aN rfl ?_;refine aS ?_;refine aA rfl rfl ?_;refine aN rfl ?_;refine T.seq ?_;refine aS ?_;refine aA rfl rfl ?_;refine TL.op1 (OpR.rowLenM (eI .i64) 0 rfl rfl rfl rfl) rfl ?_;refine aA rfl rfl ?_;refine aN rfl ?_;obtain⟨t1,ht1,h0⟩:=bS h0;refine T.cutC (fun S'=>∃ y2:Value,S'=⟨[(5,.val y2),(4,.val (.slice none 0 0))],[.row v0 (List.map (eI .i64) a0) 1 3,.var b1 [.fn (.func 170) [] [dP b3,dP b4]] 170,.var b2 [.sl 3 (List.map e_row_Row a1)] 163,.var b3 [.sl 2 (List.map e_order_By a2)] 104,.var b4 [dP b5] 28,.var b5 [.val v6] 264,.row v6 (lB a3) 1 5,.row y2 (List.map e_sl76 t1) 1 76],45⟩) (fun _ h=>h) ?_ ?_;rotate_left
 ·rintro _ ⟨y2,rfl⟩;show T X _ _ _;refine aS ?_;iterate 2 refine aA rfl rfl ?_
  refine aN rfl ?_;refine T.ret ?_;obtain rfl:=osi h0;exact PostG.retP (ks:=[0,1,2,3,4,5,6]) (Gst.trans (Gst.only [4] rfl) (Gst.trans (Gst.freezeRow 7 rfl rfl (ReS.cons (Re.base .all) ReS.nil) (ReO.same (ReO.same (ReO.same (ReO.same (ReO.same (ReO.same (ReO.same (ReO.same ReO.nil))))))))) (Gst.pick [0,1,2,3,4,5,6] rfl rfl))) undef (cT rfl ResL.nil) rfl rfl rfl rfl
 refine T.block ?_;obtain⟨n5,n10⟩:=loop_some ht1;refine T.loop (fun n S'=>∃ S'',Gst S' S''∧∃ y3:Value,∃ s4:Int × Int × (List (List Int)),S''=⟨[(10,(dN s4.2.1)),(9,(dN (a0.length:Int))),(6,(dN s4.1)),(5,.val y3),(4,.val (.slice none 0 0)),(1,.fn (.func 190) [] [dP b1,dP b2]),(0,.val v0)],[.row v0 (List.map (eI .i64) a0) 1 3,.var b1 [.fn (.func 170) [] [dP b3,dP b4]] 170,.var b2 [.sl 3 (List.map e_row_Row a1)] 163,.var b3 [.sl 2 (List.map e_order_By a2)] 104,.var b4 [dP b5] 28,.var b5 [.val v6] 264,.row v6 (lB a3) 1 5,.row y3 (List.map e_sl76 s4.2.2) 1 76],45⟩∧iter (merge_Runs_int.l1 a0 a1 a2 a3) n s4=some t1) n5 ?_ ?_
 ·exact⟨_,Gst.trans (Gst.only [0,1,4,5,6,9,10] rfl) (Gst.nilRow (ow:=[.row v0 (List.map (eI .i64) a0) 1 3,.var b1 [.fn (.func 170) [] [dP b3,dP b4]] 170,.var b2 [.sl 3 (List.map e_row_Row a1)] 163,.var b3 [.sl 2 (List.map e_order_By a2)] 104,.var b4 [dP b5] 28,.var b5 [.val v6] 264,.row v6 (lB a3) 1 5]) 1 76 rfl),(.slice none 0 0),(0,0,[]),rfl,n10⟩
 rintro n5 _ ⟨_,g,y3,s4,rfl,i9⟩;refine T.ghost g ?_;obtain⟨m6,q7,rfl,q8,i9⟩:=iter_succ i9;unfold merge_Runs_int.l1 at q8;refine aS ?_;refine aA rfl rfl ?_;refine aN rfl ?_;refine T.seq ?_;rcases ite_some q8 with ⟨c12,q8⟩|⟨c12,q8⟩;rotate_left
 ·refine T.condF rfl (eF c12) ?_;refine T.exit ?_;obtain rfl:=osi q8;obtain rfl:_=_:=i9;exact⟨_,Gst.only [4,5] rfl,y3,rfl⟩
 refine T.condT rfl (eT c12) ?_;refine aK rfl ?_;refine T.seq ?_;obtain⟨t13,ht13,q8⟩:=bS q8;refine T.cutC (fun S'=>∃ y14:Value,S'=⟨[(10,(dN s4.2.1)),(9,(dN (a0.length:Int))),(6,(dN t13.1)),(5,.val y14),(4,.val (.slice none 0 0)),(1,.fn (.func 190) [] [dP b1,dP b2]),(0,.val v0)],[.row v0 (List.map (eI .i64) a0) 1 3,.var b1 [.fn (.func 170) [] [dP b3,dP b4]] 170,.var b2 [.sl 3 (List.map e_row_Row a1)] 163,.var b3 [.sl 2 (List.map e_order_By a2)] 104,.var b4 [dP b5] 28,.var b5 [.val v6] 264,.row v6 (lB a3) 1 5,.row y14 (List.map e_sl76 t13.2) 1 76],45⟩) (fun _ h=>h) ?_ ?_;rotate_left
 ·rintro _ ⟨y14,rfl⟩;show T X _ _ _;refine T.region ?_;iterate 2 refine aA rfl rfl ?_
  refine TL.nil ?_;obtain rfl:=osi q8;exact⟨m6,Nat.lt_succ_self _,_,Gst.only [0,1,4,5,6,9,10] rfl,y14,(t13.1,w64 (s4.2.1+1),t13.2),rfl,i9⟩
 refine T.block ?_;refine aS ?_;iterate 2 refine aA rfl rfl ?_
 refine aN rfl ?_;refine T.seq ?_;refine T.seq ?_;obtain⟨t15,ht15,ht13⟩:=bS ht13;refine T.cutC (fun S'=>S'=⟨[(31,(dT t15)),(10,(dN s4.2.1)),(9,(dN (a0.length:Int))),(7,(dN s4.2.1)),(6,(dN s4.1)),(5,.val y3),(4,.val (.slice none 0 0)),(1,.fn (.func 190) [] [dP b1,dP b2]),(0,.val v0)],[.row v0 (List.map (eI .i64) a0) 1 3,.var b1 [.fn (.func 170) [] [dP b3,dP b4]] 170,.var b2 [.sl 3 (List.map e_row_Row a1)] 163,.var b3 [.sl 2 (List.map e_order_By a2)] 104,.var b4 [dP b5] 28,.var b5 [.val v6] 264,.row v6 (lB a3) 1 5,.row y3 (List.map e_sl76 s4.2.2) 1 76],45⟩) (fun _ h=>h) ?_ ?_;rotate_left
 ·rintro _ rfl;show T X _ _ _;rcases ite_some ht13 with ⟨c21,ht13⟩|⟨c21,ht13⟩
  ·refine T.condT rfl (c21) ?_;refine T.exit ?_;obtain rfl:=osi ht13;exact⟨_,Gst.only [0,1,4,5,6,9,10] rfl,y3,rfl⟩
  refine T.condF rfl (eq_false_of_ne_true c21) ?_;refine aK rfl ?_;refine aS ?_;iterate 5 refine aA rfl rfl ?_
  obtain⟨x22,hx22,ht13⟩:=bS ht13;refine TL.op1 (OpR.sliceRowM (eI .i64) 0 hx22 rfl rfl rfl rfl rfl rfl (BdM.some rfl) (BdM.some rfl)) rfl ?_;obtain⟨x23,hx23,ht13⟩:=bS ht13;refine TL.op (OpR.call [0] fn251 (slices_Clone_int_int_c hx23) rfl rfl rfl (fun _=>rfl)) rfl (fun w24=>?_);refine TL.ghost (Gst.freezeRow 8 rfl rfl (ReS.cons (Re.base .all) (ReS.refl _)) (ReO.same (ReO.same (ReO.same (ReO.same (ReO.same (ReO.same (ReO.same (ReO.same (ReO.same ReO.nil)))))))))) ?_;refine TL.op1 (OpR.lit rfl rfl rfl rfl rfl rfl rfl) rfl ?_;obtain⟨x25,hx25,ht13⟩:=bS ht13;refine TL.op (OpR.appendM (m:=[x23]) e_sl76 7 hx25 rfl rfl rfl rfl rfl rfl rfl rfl rfl (fun _=>rfl)) rfl (fun v26=>?_);refine aA rfl rfl ?_;refine aN rfl ?_;refine T.region ?_;iterate 3 refine aA rfl rfl ?_
  refine TL.nil ?_;obtain rfl:=osi ht13;exact⟨_,gP [0,1,4,5,6,9,10] [0,1,2,3,4,5,6,7] rfl rfl rfl,v26,rfl⟩
 rcases ite_some ht15 with ⟨c17,ht15⟩|⟨c17,ht15⟩;rotate_left
 ·refine T.drawQ drawsX [dN s4.2.1,dN (w64 (s4.2.1+1)),.val v0,dN (a0.length:Int),dT (decide ((w64 (s4.2.1+1))<(a0.length:Int))),dT (decide ((w64 (s4.2.1+1))<(a0.length:Int))),.tup [],.tup [],.tup [],.tup [],.tup [],.tup [],.tup [],.tup [],.tup [],.tup [],.tup [],.tup [],dT false] [0,1,4,5,6,7,9,10,31] (by decide +kernel) rfl ?_ rfl ?_;rotate_left
  ·obtain rfl:=osi ht15;exact⟨_,Gst.only [0,1,4,5,6,7,9,10,31] rfl,rfl⟩
  iterate 3 refine aB rfl rfl rfl ?_
  refine OpsQ.yes (Want.plain rfl) rfl (OpR.rowLenM (eI .i64) 0 rfl rfl rfl rfl) ?_;iterate 2 refine aB rfl rfl rfl ?_
  refine OpsQ.no (Want.bool rfl rfl rfl rfl (by rw[(eF c17)]; rfl)) rfl ?_;refine OpsQ.no (Want.bool rfl rfl rfl rfl (by rw[(eF c17)]; rfl)) rfl ?_;refine OpsQ.no (Want.bool rfl rfl rfl rfl (by rw[(eF c17)]; rfl)) rfl ?_;refine OpsQ.no (Want.bool rfl rfl rfl rfl (by rw[(eF c17)]; rfl)) rfl ?_;refine OpsQ.no (Want.bool rfl rfl rfl rfl (by rw[(eF c17)]; rfl)) rfl ?_;refine OpsQ.no (Want.bool rfl rfl rfl rfl (by rw[(eF c17)]; rfl)) rfl ?_;refine OpsQ.no (Want.bool rfl rfl rfl rfl (by rw[(eF c17)]; rfl)) rfl ?_;refine OpsQ.no (Want.bool rfl rfl rfl rfl (by rw[(eF c17)]; rfl)) rfl ?_;refine OpsQ.no (Want.bool rfl rfl rfl rfl (by rw[(eF c17)]; rfl)) rfl ?_;refine OpsQ.no (Want.bool rfl rfl rfl rfl (by rw[(eF c17)]; rfl)) rfl ?_;refine OpsQ.no (Want.bool rfl rfl rfl rfl (by rw[(eF c17)]; rfl)) rfl ?_;refine OpsQ.no (Want.bool rfl rfl rfl rfl (by rw[(eF c17)]; rfl)) rfl ?_;refine OpsQ.yes (Want.plain rfl) rfl (OpR.pickF rfl (eF c17) rfl) ?_;exact OpsQ.nil
 obtain⟨x18,hx18,ht15⟩:=bS ht15;obtain⟨x19,hx19,ht15⟩:=bS ht15;obtain⟨x20,hx20,ht15⟩:=bS ht15;refine T.drawQ drawsX [dN s4.2.1,dN (w64 (s4.2.1+1)),.val v0,dN (a0.length:Int),dT (decide ((w64 (s4.2.1+1))<(a0.length:Int))),dT (decide ((w64 (s4.2.1+1))<(a0.length:Int))),.fn (.func 190) [] [dP b1,dP b2],.val v0,dN s4.2.1,.val (.pointer (some ⟨blk v0,s4.2.1.toNat*1,none⟩)),dN x18,.val v0,dN s4.2.1,dN (w64 (s4.2.1+1)),.val (.pointer (some ⟨blk v0,(w64 (s4.2.1+1)).toNat*1,none⟩)),dN x19,dN x20,dT (decide (x20≤0)),dT (decide (x20≤0))] [0,1,4,5,6,7,9,10,31] (by decide +kernel) rfl ?_ rfl ?_;rotate_left
 ·obtain rfl:=osi ht15;exact⟨_,Gst.only [0,1,4,5,6,7,9,10,31] rfl,rfl⟩
 iterate 3 refine aB rfl rfl rfl ?_
 refine OpsQ.yes (Want.plain rfl) rfl (OpR.rowLenM (eI .i64) 0 rfl rfl rfl rfl) ?_;iterate 2 refine aB rfl rfl rfl ?_
 refine OpsQ.yes (Want.bool rfl rfl rfl rfl (by rw[(eT c17)]; rfl)) rfl (OpR.pure rfl) ?_;refine OpsQ.yes (Want.bool rfl rfl rfl rfl (by rw[(eT c17)]; rfl)) rfl (OpR.pure rfl) ?_;refine OpsQ.yes (Want.bool rfl rfl rfl rfl (by rw[(eT c17)]; rfl)) rfl (OpR.pure rfl) ?_;refine OpsQ.yes (Want.bool rfl rfl rfl rfl (by rw[(eT c17)]; rfl)) rfl (OpR.rowIndexM (eI .i64) 0 hx18 rfl rfl rfl rfl rfl rfl rfl) ?_;refine OpsQ.yes (Want.bool rfl rfl rfl rfl (by rw[(eT c17)]; rfl)) rfl (OpR.rowLoad0M (j:=s4.2.1) (eI .i64) 0 hx18 rfl rfl rfl rfl) ?_;refine OpsQ.yes (Want.bool rfl rfl rfl rfl (by rw[(eT c17)]; rfl)) rfl (OpR.pure rfl) ?_;refine OpsQ.yes (Want.bool rfl rfl rfl rfl (by rw[(eT c17)]; rfl)) rfl (OpR.pure rfl) ?_;refine OpsQ.yes (Want.bool rfl rfl rfl rfl (by rw[(eT c17)]; rfl)) rfl (OpR.pure rfl) ?_;refine OpsQ.yes (Want.bool rfl rfl rfl rfl (by rw[(eT c17)]; rfl)) rfl (OpR.rowIndexM (eI .i64) 0 hx19 rfl rfl rfl rfl rfl rfl rfl) ?_;refine OpsQ.yes (Want.bool rfl rfl rfl rfl (by rw[(eT c17)]; rfl)) rfl (OpR.rowLoad0M (j:=w64 (s4.2.1+1)) (eI .i64) 0 hx19 rfl rfl rfl rfl) ?_;refine OpsQ.yes (Want.bool rfl rfl rfl rfl (by rw[(eT c17)]; rfl)) rfl (OpR.callV [1,2,3,4,5,6] rfl fn190 (merge_Perm_row_Row_1_c hx20) rfl rfl rfl (fun _=>rfl)) ?_;refine OpsQ.yes (Want.bool rfl rfl rfl rfl (by rw[(eT c17)]; rfl)) rfl (OpR.pure rfl) ?_;refine OpsQ.yes (Want.plain rfl) rfl (OpR.pickT rfl (eT c17) rfl) ?_;exact OpsQ.nil
noncomputable def merge_count_int.l1 (a0:List (List Int)) (s2:Int × Int):Option (Lp (Int × Int) Int):=
 if s2.2<(a0.length:Int) then
 bnd (idx a0 s2.2) fun x11=>
 some (Lp.next (w64 (s2.1+(x11.length:Int)),w64 (s2.2+1)))
else
 some (Lp.done s2.1)
noncomputable def merge_count_int (a0:List (List Int)):Option Int:=
 bnd (loop (merge_count_int.l1 a0) (0,0):Option Int) fun t1=>
 some t1
theorem merge_count_int_c {a0:List (List Int)} {res:Int} (h0:merge_count_int a0=some res):CallF X 250 [.sl 1 (List.map e_sl76 a0)] [] (fun x=>(dN res)) (fun x=>[]):=by
 unfold merge_count_int at h0;refine CallF.mkG (X:=X) rfl Tryz.func250 rfl rfl Tryz.ntmps250 rfl rfl ?_;refine aS ?_;refine aA rfl rfl ?_;refine aN rfl ?_;refine aS ?_;refine aA rfl rfl ?_;refine aN rfl ?_;refine T.seq ?_;refine aS ?_;refine aA rfl rfl ?_;refine TL.op1 (OpR.cast (OpR.pure rfl) (intE (lenM _ _))) rfl ?_;refine aA rfl rfl ?_;refine aN rfl ?_;obtain⟨t1,ht1,h0⟩:=bS h0;refine T.cutC (fun S'=>S'=⟨[(3,(dN t1)),(2,(dN 0))],[],18⟩) (fun _ h=>h) ?_ ?_;rotate_left
 ·rintro _ rfl;show T X _ _ _;refine aS ?_;iterate 2 refine aA rfl rfl ?_
  refine aN rfl ?_;refine T.ret ?_;obtain rfl:=osi h0;exact rO [] [2] rfl undef (cT rfl ResL.nil) rfl rfl rfl rfl
 refine T.block ?_;obtain⟨n3,n8⟩:=loop_some ht1;refine T.loop (fun n S'=>∃ S'',Gst S' S''∧∃ s2:Int × Int,S''=⟨[(8,(dN s2.2)),(7,(dN (a0.length:Int))),(6,.sl 1 (List.map e_sl76 a0)),(3,(dN s2.1)),(2,(dN 0))],[],18⟩∧iter (merge_count_int.l1 a0) n s2=some t1) n3 ?_ ?_
 ·exact⟨_,Gst.only [2,3,6,7,8] rfl,(0,0),rfl,n8⟩
 rintro n3 _ ⟨_,g,s2,rfl,i7⟩;refine T.ghost g ?_;obtain⟨m4,q5,rfl,q6,i7⟩:=iter_succ i7;unfold merge_count_int.l1 at q6;refine aS ?_;refine aA rfl rfl ?_;refine aN rfl ?_;refine T.seq ?_;rcases ite_some q6 with ⟨c10,q6⟩|⟨c10,q6⟩;rotate_left
 ·refine T.condF rfl (eF c10) ?_;refine T.exit ?_;obtain rfl:=osi q6;obtain rfl:_=_:=i7;exact⟨_,Gst.only [2,3] rfl,rfl⟩
 refine T.condT rfl (eT c10) ?_;refine aK rfl ?_;refine T.seq ?_;refine T.block ?_;refine aS ?_;obtain⟨x11,hx11,q6⟩:=bS q6;refine TL.op1 (OpR.indexM e_sl76 hx11 rfl rfl rfl rfl rfl) rfl ?_;iterate 2 refine aA rfl rfl ?_
 refine aN rfl ?_;refine T.region ?_;iterate 2 refine aA rfl rfl ?_
 refine TL.op1 (OpR.cast (OpR.pure rfl) (intE (lenM _ _))) rfl ?_;iterate 2 refine aA rfl rfl ?_
 refine aN rfl ?_;refine T.region ?_;iterate 2 refine aA rfl rfl ?_
 refine TL.nil ?_;obtain rfl:=osi q6;exact⟨m4,Nat.lt_succ_self _,_,Gst.only [2,3,6,7,8] rfl,(w64 (s2.1+(x11.length:Int)),w64 (s2.2+1)),rfl,i7⟩
noncomputable def merge_runs_int_Push_2 (a0:merge_run_int) (a1:List merge_run_int) (a2:List row_Row) (a3:List order_By) (a4:List UInt8):Option (List merge_run_int):=
 bnd (app 32 a1 [a0]) fun x2=>
 some x2
theorem merge_runs_int_Push_2_c {a0:merge_run_int} {a1:List merge_run_int} {a2:List row_Row} {a3:List order_By} {a4:List UInt8} {b0:Nat} {v1:Value} {b2:Nat} {b3:Nat} {b4:Nat} {b5:Nat} {b6:Nat} {v7:Value} {res:(List merge_run_int)} (h0:merge_runs_int_Push_2 a0 a1 a2 a3 a4=some res):CallF X 304 [dP b0,.ifc 357 (.agg [.sl 1 (List.map (eI .i64) a0.fRest),dN a0.fWhich])] [.var b0 [.val v1,.fn (.func 190) [] [dP b2,dP b3]] 355,.row v1 (List.map e_merge_run_int a1) 2 357,.var b2 [.fn (.func 170) [] [dP b4,dP b5]] 170,.var b3 [.sl 3 (List.map e_row_Row a2)] 163,.var b4 [.sl 2 (List.map e_order_By a3)] 104,.var b5 [dP b6] 28,.var b6 [.val v7] 264,.row v7 (lB a4) 1 5] (fun x=>.tup []) (fun x=>[.var b0 [.val (vn x 0),.fn (.func 190) [] [dP b2,dP b3]] 355,.row (vn x 0) (List.map e_merge_run_int res) 2 357,.var b2 [.fn (.func 170) [] [dP b4,dP b5]] 170,.var b3 [.sl 3 (List.map e_row_Row a2)] 163,.var b4 [.sl 2 (List.map e_order_By a3)] 104,.var b5 [dP b6] 28,.var b6 [.val v7] 264,.row v7 (lB a4) 1 5]):=by
 unfold merge_runs_int_Push_2 at h0;refine CallF.mkG (X:=X) rfl Tryz.func304 rfl rfl Tryz.ntmps304 rfl rfl ?_;obtain⟨x2,hx2,h0⟩:=bS h0;refine T.drawS drawsX (fun env1=>[dP b0,dP b0,dP b0,dP b0,.val v1,.ifc 357 (.agg [.sl 1 (List.map (eI .i64) a0.fRest),dN a0.fWhich]),.agg [.sl 1 (List.map (eI .i64) a0.fRest),dN a0.fWhich],.sl 2 (List.map e_merge_run_int [a0]),.val (env1 8),dP b0,dP b0,.dead]) (fun D env1=>[(bif D 11 then .var b0 [.val (env1 8),.fn (.func 190) [] [dP b2,dP b3]] 355 else .var b0 [.val v1,.fn (.func 190) [] [dP b2,dP b3]] 355),(bif D 8 then .row (env1 8) (List.map e_merge_run_int x2) 2 357 else .row v1 (List.map e_merge_run_int a1) 2 357),.var b2 [.fn (.func 170) [] [dP b4,dP b5]] 170,.var b3 [.sl 3 (List.map e_row_Row a2)] 163,.var b4 [.sl 2 (List.map e_order_By a3)] 104,.var b5 [dP b6] 28,.var b6 [.val v7] 264,.row v7 (lB a4) 1 5]) [0,0,2,6,14,0,32,96,254,511,1023,2047] [] _ (by decide +kernel) (by decide +kernel) (fun _=>rfl) (fun _=>rfl) ?_ (fun _=>rfl) (fun _=>rfl) ?_;rotate_left
 ·intro env1;obtain rfl:=osi h0;exact PostG.finP (ks:=[0,1,2,3,4,5,6,7]) (Gst.only [] rfl) (.tuple #[(env1 8)]) ResL.nil rfl rfl rfl rfl
 iterate 4 refine aC ?_
 refine OpsS.cons' true ?_ (fun _ _ _ _ _ _ _=>rfl) ?_
 ·intro D env1 hA;have e8:D 8=false:=hA.no 8 _ rfl rfl;have e11:D 11=false:=hA.no 11 _ rfl rfl;exact OpS.yp [(8,false),(11,false)] ⟨e8,e11,trivial⟩ (Want.plain rfl) (OpR.loadPtr 0 rfl rfl rfl rfl) (fun x=>rfl) (fun x=>rfl)
 refine aC ?_;refine oT (.agg [.sl 1 (List.map (eI .i64) a0.fRest),dN a0.fWhich]) (fun _ _=>OpR.assert rfl rfl rfl) ?_;refine oT (.sl 2 (List.map e_merge_run_int [a0])) (fun _ _=>OpR.lit rfl rfl rfl rfl rfl rfl rfl) ?_;refine OpsS.cons' true ?_ (fun D hA env1 x j hj hD=>match j,hj,hD with|0,_,_=>rfl|1,_,_=>rfl|2,_,_=>rfl|3,_,_=>rfl|4,_,_=>rfl|5,_,_=>rfl|6,_,_=>rfl|7,_,_=>rfl|8,hj,_=>absurd rfl hj|9,_,_=>rfl|10,_,_=>rfl|11,_,_=>rfl|_+12,_,_=>rfl) ?_
 ·intro D env1 hA;have e11:D 11=false:=hA.no 11 _ rfl rfl;exact OpS.yp [(11,false),(8,false)] ⟨e11,hA.me,trivial⟩ (Want.plain rfl) (OpR.appendM (m:=[a0]) e_merge_run_int 1 hx2 rfl rfl rfl rfl rfl rfl rfl rfl rfl (fun _=>rfl)) (fun x=>rfl) (fun x=>rfl)
 iterate 2 refine aC ?_
 refine OpsS.cons' true ?_ (fun _ _ _ _ _ _ _=>rfl) ?_
 ·intro D env1 hA;have e8:D 8=true:=hA.yes 8 _ rfl rfl;exact OpS.yp [(8,true),(11,false)] ⟨e8,hA.me,trivial⟩ (Want.plain rfl) (OpR.store 0 rfl rfl rfl rfl rfl rfl rfl rfl) (fun x=>rfl) (fun x=>rfl)
 exact trivial
noncomputable def merge_runs_int_Len (a0:List merge_run_int) (a1:List row_Row) (a2:List order_By) (a3:List UInt8):Option Int:=
 some (a0.length:Int)
theorem merge_runs_int_Len_c {a0:List merge_run_int} {a1:List row_Row} {a2:List order_By} {a3:List UInt8} {b0:Nat} {v1:Value} {b2:Nat} {b3:Nat} {b4:Nat} {b5:Nat} {b6:Nat} {v7:Value} {res:Int} (h0:merge_runs_int_Len a0 a1 a2 a3=some res):CallF X 268 [dP b0] [.var b0 [.val v1,.fn (.func 190) [] [dP b2,dP b3]] 355,.row v1 (List.map e_merge_run_int a0) 2 357,.var b2 [.fn (.func 170) [] [dP b4,dP b5]] 170,.var b3 [.sl 3 (List.map e_row_Row a1)] 163,.var b4 [.sl 2 (List.map e_order_By a2)] 104,.var b5 [dP b6] 28,.var b6 [.val v7] 264,.row v7 (lB a3) 1 5] (fun x=>(dN res)) (fun x=>[.var b0 [.val v1,.fn (.func 190) [] [dP b2,dP b3]] 355,.row v1 (List.map e_merge_run_int a0) 2 357,.var b2 [.fn (.func 170) [] [dP b4,dP b5]] 170,.var b3 [.sl 3 (List.map e_row_Row a1)] 163,.var b4 [.sl 2 (List.map e_order_By a2)] 104,.var b5 [dP b6] 28,.var b6 [.val v7] 264,.row v7 (lB a3) 1 5]):=by
 unfold merge_runs_int_Len at h0;refine CallF.mkG (X:=X) rfl Tryz.func268 rfl rfl Tryz.ntmps268 rfl rfl ?_;refine aS ?_;refine aA rfl rfl ?_;refine aN rfl ?_;refine aS ?_;iterate 3 refine aA rfl rfl ?_
 refine TL.op1 (OpR.loadPtr 0 rfl rfl rfl rfl) rfl ?_;refine TL.op1 (OpR.rowLenM e_merge_run_int 1 rfl rfl rfl rfl) rfl ?_;refine aA rfl rfl ?_;refine aN rfl ?_;refine T.ret ?_;obtain rfl:=osi h0;exact rO [0,1,2,3,4,5,6,7] [2] rfl undef (cT rfl ResL.nil) rfl rfl rfl rfl
noncomputable def merge_runs_int_Less (a0:Int) (a1:Int) (a2:List merge_run_int) (a3:List row_Row) (a4:List order_By) (a5:List UInt8):Option Bool:=
 bnd (idx a2 a0) fun x2=>
 bnd (idx a2 a1) fun x3=>
 bnd (idx x2.fRest 0) fun x5=>
 bnd (idx x3.fRest 0) fun x6=>
 bnd (merge_Perm_row_Row_1 x5 x6 a3 a4 a5) fun x7=>
 if x7=0 then
 some (decide (x2.fWhich<x3.fWhich))
else
 some (decide (x7<0))
theorem merge_runs_int_Less_c {a0:Int} {a1:Int} {a2:List merge_run_int} {a3:List row_Row} {a4:List order_By} {a5:List UInt8} {b0:Nat} {v1:Value} {b2:Nat} {b3:Nat} {b4:Nat} {b5:Nat} {b6:Nat} {v7:Value} {res:Bool} (h0:merge_runs_int_Less a0 a1 a2 a3 a4 a5=some res):CallF X 302 [dP b0,dN a0,dN a1] [.var b0 [.val v1,.fn (.func 190) [] [dP b2,dP b3]] 355,.row v1 (List.map e_merge_run_int a2) 2 357,.var b2 [.fn (.func 170) [] [dP b4,dP b5]] 170,.var b3 [.sl 3 (List.map e_row_Row a3)] 163,.var b4 [.sl 2 (List.map e_order_By a4)] 104,.var b5 [dP b6] 28,.var b6 [.val v7] 264,.row v7 (lB a5) 1 5] (fun x=>(dT res)) (fun x=>[.var b0 [.val v1,.fn (.func 190) [] [dP b2,dP b3]] 355,.row v1 (List.map e_merge_run_int a2) 2 357,.var b2 [.fn (.func 170) [] [dP b4,dP b5]] 170,.var b3 [.sl 3 (List.map e_row_Row a3)] 163,.var b4 [.sl 2 (List.map e_order_By a4)] 104,.var b5 [dP b6] 28,.var b6 [.val v7] 264,.row v7 (lB a5) 1 5]):=by
 unfold merge_runs_int_Less at h0;refine CallF.mkG (X:=X) rfl Tryz.func302 rfl rfl Tryz.ntmps302 rfl rfl ?_;refine aS ?_;refine aA rfl rfl ?_;refine aN rfl ?_;refine T.seq ?_;obtain⟨x2,hx2,h0⟩:=bS h0;obtain⟨x3,hx3,h0⟩:=bS h0;refine T.drawS drawsX (fun env1=>[dP b0,dP b0,dP b0,.val v1,dN a0,.val (.pointer (some ⟨blk v1,a0.toNat*2,none⟩)),.agg [.sl 1 (List.map (eI .i64) x2.fRest),dN x2.fWhich],dP b0,dP b0,dP b0,.val v1,dN a1,.val (.pointer (some ⟨blk v1,a1.toNat*2,none⟩)),.agg [.sl 1 (List.map (eI .i64) x3.fRest),dN x3.fWhich],dP (blk (env1 14)),dP (blk (env1 15)),.dead,.dead]) (fun D env1=>[.var b0 [.val v1,.fn (.func 190) [] [dP b2,dP b3]] 355,.row v1 (List.map e_merge_run_int a2) 2 357,.var b2 [.fn (.func 170) [] [dP b4,dP b5]] 170,.var b3 [.sl 3 (List.map e_row_Row a3)] 163,.var b4 [.sl 2 (List.map e_order_By a4)] 104,.var b5 [dP b6] 28,.var b6 [.val v7] 264,.row v7 (lB a5) 1 5]++(bif D 14 then [(bif D 16 then .var (blk (env1 14)) [.sl 1 (List.map (eI .i64) x2.fRest),dN x2.fWhich] 357 else .var (blk (env1 14)) [.val (.slice none 0 0),dN 0] 357)] else [])++(bif D 15 then [(bif D 17 then .var (blk (env1 15)) [.sl 1 (List.map (eI .i64) x3.fRest),dN x3.fWhich] 357 else .var (blk (env1 15)) [.val (.slice none 0 0),dN 0] 357)] else [])) [0,1,3,7,0,31,63,0,128,384,896,0,3968,8064,0,0,49279,131071] [0,6,7,8] _ (by decide +kernel) (by decide +kernel) (fun _=>rfl) (fun _=>rfl) ?_ (fun _=>rfl) (fun _=>rfl) ?_;rotate_left
 ·intro env1;show T X _ _ _;refine T.seq ?_;refine T.seq ?_;obtain⟨x5,hx5,h0⟩:=bS h0;obtain⟨x6,hx6,h0⟩:=bS h0;obtain⟨x7,hx7,h0⟩:=bS h0;refine T.drawQ drawsX [dP b0,dP b0,.val (.pointer (some ⟨b0,1,none⟩)),.fn (.func 190) [] [dP b2,dP b3],dP (blk (env1 14)),.sl 1 (List.map (eI .i64) x2.fRest),.nod [dN x5],dN x5,dP (blk (env1 15)),.sl 1 (List.map (eI .i64) x3.fRest),.nod [dN x6],dN x6,dN x7,dN x7] [6,7,8,9] (by decide +kernel) rfl ?_ rfl ?_
  ·iterate 3 refine aB rfl rfl rfl ?_
   refine OpsQ.yes (Want.plain rfl) rfl (OpR.loadPtr 0 rfl rfl rfl rfl) ?_;refine aB rfl rfl rfl ?_;refine OpsQ.yes (Want.plain rfl) rfl (OpR.loadPtr 8 rfl rfl rfl rfl) ?_;refine OpsQ.yes (Want.plain rfl) rfl (OpR.indexM (eI .i64) hx5 rfl rfl rfl rfl rfl) ?_;iterate 2 refine aB rfl rfl rfl ?_
   refine OpsQ.yes (Want.plain rfl) rfl (OpR.loadPtr 9 rfl rfl rfl rfl) ?_;refine OpsQ.yes (Want.plain rfl) rfl (OpR.indexM (eI .i64) hx6 rfl rfl rfl rfl rfl) ?_;refine aB rfl rfl rfl ?_;refine OpsQ.yes (Want.plain rfl) rfl (OpR.callV [2,3,4,5,6,7] rfl fn190 (merge_Perm_row_Row_1_c hx7) rfl rfl rfl (fun _=>rfl)) ?_;refine aB rfl rfl rfl ?_;exact OpsQ.nil
  show T X _ _ _;refine aS ?_;iterate 2 refine aA rfl rfl ?_
  refine aN rfl ?_;rcases ite_some h0 with ⟨c8,h0⟩|⟨c8,h0⟩;rotate_left
  ·refine T.condT rfl (not_f (beq_eq_false_iff_ne.2 c8)) ?_;refine aS ?_;iterate 3 refine aA rfl rfl ?_
   refine aN rfl ?_;refine T.ret ?_;obtain rfl:=osi h0;exact rP [0,1,2,3,4,5,6,7] [6] [0,1,2,3,4,5,6,7] rfl rfl rfl undef (cT rfl ResL.nil) rfl rfl rfl rfl
  refine T.condF rfl (not_t (beq_iff_eq.2 c8)) ?_;refine aK rfl ?_;refine aS ?_;refine aA rfl rfl ?_;refine TL.op1 (OpR.loadPtr 8 rfl rfl rfl rfl) rfl ?_;refine aA rfl rfl ?_;refine TL.op1 (OpR.loadPtr 9 rfl rfl rfl rfl) rfl ?_;iterate 2 refine aA rfl rfl ?_
  refine aN rfl ?_;refine T.ret ?_;obtain rfl:=osi h0;exact rP [0,1,2,3,4,5,6,7] [6] [0,1,2,3,4,5,6,7] rfl rfl rfl undef (cT rfl ResL.nil) rfl rfl rfl rfl
 iterate 3 refine aC ?_
 refine oT (.val v1) (fun _ _=>OpR.loadPtr 0 rfl rfl rfl rfl) ?_;refine aC ?_;refine oT (.val (.pointer (some ⟨blk v1,a0.toNat*2,none⟩))) (fun _ _=>OpR.rowIndexM e_merge_run_int 1 hx2 rfl rfl rfl rfl rfl rfl rfl) ?_;refine oT (.agg [.sl 1 (List.map (eI .i64) x2.fRest),dN x2.fWhich]) (fun _ _=>OpR.rowLoad0M (j:=a0) e_merge_run_int 1 hx2 rfl rfl rfl rfl) ?_;iterate 3 refine aC ?_
 refine oT (.val v1) (fun _ _=>OpR.loadPtr 0 rfl rfl rfl rfl) ?_;refine aC ?_;refine oT (.val (.pointer (some ⟨blk v1,a1.toNat*2,none⟩))) (fun _ _=>OpR.rowIndexM e_merge_run_int 1 hx3 rfl rfl rfl rfl rfl rfl rfl) ?_;refine oT (.agg [.sl 1 (List.map (eI .i64) x3.fRest),dN x3.fWhich]) (fun _ _=>OpR.rowLoad0M (j:=a1) e_merge_run_int 1 hx3 rfl rfl rfl rfl) ?_;refine OpsS.cons' true ?_ (fun D hA env1 x j hj hD=>match j,hj,hD with|0,_,_=>rfl|1,_,_=>rfl|2,_,_=>rfl|3,_,_=>rfl|4,_,_=>rfl|5,_,_=>rfl|6,_,_=>rfl|7,_,_=>rfl|8,_,_=>rfl|9,_,_=>rfl|10,_,_=>rfl|11,_,_=>rfl|12,_,_=>rfl|13,_,_=>rfl|14,hj,_=>absurd rfl hj|15,_,_=>rfl|16,_,_=>rfl|17,_,_=>rfl|_+18,_,_=>rfl) ?_
 ·intro D env1 hA;have e16:D 16=false:=hA.no 16 _ rfl rfl;have e17:D 17=false:=hA.no 17 _ rfl rfl;rcases Bool.eq_false_or_eq_true (D 15) with e15|e15;rotate_left
  ·exact OpS.yp [(16,false),(17,false),(15,false),(14,false)] ⟨e16,e17,e15,hA.me,trivial⟩ (Want.plain rfl) (OpR.alloc rfl rfl (fun _=>rfl)) (fun x=>rfl) (fun x=>rfl)
  exact OpS.yp [(16,false),(17,false),(15,true),(14,false)] ⟨e16,e17,e15,hA.me,trivial⟩ (Want.plain rfl) (OpR.pick [0,1,2,3,4,5,6,7,9,8] (OpR.alloc rfl rfl (fun _=>rfl)) (fun _=>rfl) rfl) (fun x=>rfl) (fun x=>rfl)
 refine OpsS.cons' true ?_ (fun D hA env1 x j hj hD=>match j,hj,hD with|0,_,_=>rfl|1,_,_=>rfl|2,_,_=>rfl|3,_,_=>rfl|4,_,_=>rfl|5,_,_=>rfl|6,_,_=>rfl|7,_,_=>rfl|8,_,_=>rfl|9,_,_=>rfl|10,_,_=>rfl|11,_,_=>rfl|12,_,_=>rfl|13,_,_=>rfl|14,_,_=>rfl|15,hj,_=>absurd rfl hj|16,_,_=>rfl|17,_,_=>rfl|_+18,_,_=>rfl) ?_
 ·intro D env1 hA;have e16:D 16=false:=hA.no 16 _ rfl rfl;have e17:D 17=false:=hA.no 17 _ rfl rfl;rcases Bool.eq_false_or_eq_true (D 14) with e14|e14
  ·exact OpS.yp [(16,false),(17,false),(14,true),(15,false)] ⟨e16,e17,e14,hA.me,trivial⟩ (Want.plain rfl) (OpR.alloc rfl rfl (fun _=>rfl)) (fun x=>rfl) (fun x=>rfl)
  exact OpS.yp [(16,false),(17,false),(14,false),(15,false)] ⟨e16,e17,e14,hA.me,trivial⟩ (Want.plain rfl) (OpR.alloc rfl rfl (fun _=>rfl)) (fun x=>rfl) (fun x=>rfl)
 refine OpsS.cons' true ?_ (fun _ _ _ _ _ _ _=>rfl) ?_
 ·intro D env1 hA;have e14:D 14=true:=hA.yes 14 _ rfl rfl;have e15:D 15=true:=hA.yes 15 _ rfl rfl;have e17:D 17=false:=hA.no 17 _ rfl rfl;exact OpS.yp [(14,true),(15,true),(17,false),(16,false)] ⟨e14,e15,e17,hA.me,trivial⟩ (Want.plain rfl) (OpR.store 8 rfl rfl rfl rfl rfl rfl rfl rfl) (fun x=>rfl) (fun x=>rfl)
 refine OpsS.cons' true ?_ (fun _ _ _ _ _ _ _=>rfl) ?_
 ·intro D env1 hA;have e14:D 14=true:=hA.yes 14 _ rfl rfl;have e15:D 15=true:=hA.yes 15 _ rfl rfl;have e16:D 16=true:=hA.yes 16 _ rfl rfl;exact OpS.yp [(14,true),(15,true),(16,true),(17,false)] ⟨e14,e15,e16,hA.me,trivial⟩ (Want.plain rfl) (OpR.store 9 rfl rfl rfl rfl rfl rfl rfl rfl) (fun x=>rfl) (fun x=>rfl)
 exact trivial
noncomputable def merge_runs_int_Swap (a0:Int) (a1:Int) (a2:List merge_run_int) (a3:List row_Row) (a4:List order_By) (a5:List UInt8):Option (List merge_run_int):=
 bnd (idx a2 a1) fun x2=>
 bnd (idx a2 a0) fun x3=>
 bnd (idx (a2.set a0.toNat x2) a1) fun x4=>
 some ((a2.set a0.toNat x2).set a1.toNat x3)
theorem merge_runs_int_Swap_c {a0:Int} {a1:Int} {a2:List merge_run_int} {a3:List row_Row} {a4:List order_By} {a5:List UInt8} {b0:Nat} {v1:Value} {b2:Nat} {b3:Nat} {b4:Nat} {b5:Nat} {b6:Nat} {v7:Value} {res:(List merge_run_int)} (h0:merge_runs_int_Swap a0 a1 a2 a3 a4 a5=some res):CallF X 305 [dP b0,dN a0,dN a1] [.var b0 [.val v1,.fn (.func 190) [] [dP b2,dP b3]] 355,.row v1 (List.map e_merge_run_int a2) 2 357,.var b2 [.fn (.func 170) [] [dP b4,dP b5]] 170,.var b3 [.sl 3 (List.map e_row_Row a3)] 163,.var b4 [.sl 2 (List.map e_order_By a4)] 104,.var b5 [dP b6] 28,.var b6 [.val v7] 264,.row v7 (lB a5) 1 5] (fun x=>.tup []) (fun x=>[.var b0 [.val v1,.fn (.func 190) [] [dP b2,dP b3]] 355,.row v1 (List.map e_merge_run_int res) 2 357,.var b2 [.fn (.func 170) [] [dP b4,dP b5]] 170,.var b3 [.sl 3 (List.map e_row_Row a3)] 163,.var b4 [.sl 2 (List.map e_order_By a4)] 104,.var b5 [dP b6] 28,.var b6 [.val v7] 264,.row v7 (lB a5) 1 5]):=by
 unfold merge_runs_int_Swap at h0;refine CallF.mkG (X:=X) rfl Tryz.func305 rfl rfl Tryz.ntmps305 rfl rfl ?_;obtain⟨x2,hx2,h0⟩:=bS h0;obtain⟨x3,hx3,h0⟩:=bS h0;obtain⟨x4,hx4,h0⟩:=bS h0;refine T.drawS drawsX (fun env1=>[dP b0,dP b0,dP b0,.val v1,dN a0,dP b0,dP b0,dP b0,.val v1,dN a1,dP b0,dP b0,dP b0,.val v1,dN a1,.val (.pointer (some ⟨blk v1,a1.toNat*2,none⟩)),.agg [.sl 1 (List.map (eI .i64) x2.fRest),dN x2.fWhich],dP b0,dP b0,dP b0,.val v1,dN a0,.val (.pointer (some ⟨blk v1,a0.toNat*2,none⟩)),.agg [.sl 1 (List.map (eI .i64) x3.fRest),dN x3.fWhich],.val (.pointer (some ⟨blk v1,a0.toNat*2,none⟩)),.dead,.val (.pointer (some ⟨blk v1,a1.toNat*2,none⟩)),.dead]) (fun D env1=>[.var b0 [.val v1,.fn (.func 190) [] [dP b2,dP b3]] 355,(bif D 27 then .row v1 (List.map e_merge_run_int ((a2.set a0.toNat x2).set a1.toNat x3)) 2 357 else bif D 25 then .row v1 (List.map e_merge_run_int (a2.set a0.toNat x2)) 2 357 else .row v1 (List.map e_merge_run_int a2) 2 357),.var b2 [.fn (.func 170) [] [dP b4,dP b5]] 170,.var b3 [.sl 3 (List.map e_row_Row a3)] 163,.var b4 [.sl 2 (List.map e_order_By a4)] 104,.var b5 [dP b6] 28,.var b6 [.val v7] 264,.row v7 (lB a5) 1 5]) [0,1,3,7,0,0,32,96,224,0,0,1024,3072,7168,0,31744,64512,0,131072,393216,917504,0,4063232,8257536,16776703,33553919,67108863,134217727] [] _ (by decide +kernel) (by decide +kernel) (fun _=>rfl) (fun _=>rfl) ?_ (fun _=>rfl) (fun _=>rfl) ?_;rotate_left
 ·intro env1;obtain rfl:=osi h0;exact PostG.finP (ks:=[0,1,2,3,4,5,6,7]) (Gst.only [] rfl) undef ResL.nil rfl rfl rfl rfl
 iterate 3 refine aC ?_
 refine oT (.val v1) (fun _ _=>OpR.loadPtr 0 rfl rfl rfl rfl) ?_;iterate 4 refine aC ?_
 refine oT (.val v1) (fun _ _=>OpR.loadPtr 0 rfl rfl rfl rfl) ?_;iterate 4 refine aC ?_
 refine oT (.val v1) (fun _ _=>OpR.loadPtr 0 rfl rfl rfl rfl) ?_;refine aC ?_;refine OpsS.cons' true ?_ (fun _ _ _ _ _ _ _=>rfl) ?_
 ·intro D env1 hA;have e25:D 25=false:=hA.no 25 _ rfl rfl;have e27:D 27=false:=hA.no 27 _ rfl rfl;exact OpS.yp [(25,false),(27,false)] ⟨e25,e27,trivial⟩ (Want.plain rfl) (OpR.rowIndexM e_merge_run_int 1 hx2 rfl rfl rfl rfl rfl rfl rfl) (fun x=>rfl) (fun x=>rfl)
 refine OpsS.cons' true ?_ (fun _ _ _ _ _ _ _=>rfl) ?_
 ·intro D env1 hA;have e25:D 25=false:=hA.no 25 _ rfl rfl;have e27:D 27=false:=hA.no 27 _ rfl rfl;exact OpS.yp [(25,false),(27,false)] ⟨e25,e27,trivial⟩ (Want.plain rfl) (OpR.rowLoad0M (j:=a1) e_merge_run_int 1 hx2 rfl rfl rfl rfl) (fun x=>rfl) (fun x=>rfl)
 iterate 3 refine aC ?_
 refine oT (.val v1) (fun _ _=>OpR.loadPtr 0 rfl rfl rfl rfl) ?_;refine aC ?_;refine OpsS.cons' true ?_ (fun _ _ _ _ _ _ _=>rfl) ?_
 ·intro D env1 hA;have e25:D 25=false:=hA.no 25 _ rfl rfl;have e27:D 27=false:=hA.no 27 _ rfl rfl;exact OpS.yp [(25,false),(27,false)] ⟨e25,e27,trivial⟩ (Want.plain rfl) (OpR.rowIndexM e_merge_run_int 1 hx3 rfl rfl rfl rfl rfl rfl rfl) (fun x=>rfl) (fun x=>rfl)
 refine OpsS.cons' true ?_ (fun _ _ _ _ _ _ _=>rfl) ?_
 ·intro D env1 hA;have e25:D 25=false:=hA.no 25 _ rfl rfl;have e27:D 27=false:=hA.no 27 _ rfl rfl;exact OpS.yp [(25,false),(27,false)] ⟨e25,e27,trivial⟩ (Want.plain rfl) (OpR.rowLoad0M (j:=a0) e_merge_run_int 1 hx3 rfl rfl rfl rfl) (fun x=>rfl) (fun x=>rfl)
 refine OpsS.cons' true ?_ (fun _ _ _ _ _ _ _=>rfl) ?_
 ·intro D env1 hA;have e25:D 25=false:=hA.no 25 _ rfl rfl;have e27:D 27=false:=hA.no 27 _ rfl rfl;exact OpS.yp [(25,false),(27,false)] ⟨e25,e27,trivial⟩ (Want.plain rfl) (OpR.rowIndexM e_merge_run_int 1 hx3 rfl rfl rfl rfl rfl rfl rfl) (fun x=>rfl) (fun x=>rfl)
 refine OpsS.cons' true ?_ (fun _ _ _ _ _ _ _=>rfl) ?_
 ·intro D env1 hA;have e27:D 27=false:=hA.no 27 _ rfl rfl;exact OpS.yp [(27,false),(25,false)] ⟨e27,hA.me,trivial⟩ (Want.plain rfl) (OpR.rowStore0M (j:=a0) e_merge_run_int x2 1 hx3 rfl rfl rfl rfl rfl rfl rfl rfl rfl) (fun x=>rfl) (fun x=>rfl)
 refine OpsS.cons' true ?_ (fun _ _ _ _ _ _ _=>rfl) ?_
 ·intro D env1 hA;have e25:D 25=true:=hA.yes 25 _ rfl rfl;have e27:D 27=false:=hA.no 27 _ rfl rfl;exact OpS.yp [(25,true),(27,false)] ⟨e25,e27,trivial⟩ (Want.plain rfl) (OpR.rowIndexM e_merge_run_int 1 hx4 rfl rfl rfl rfl rfl rfl rfl) (fun x=>rfl) (fun x=>rfl)
 refine OpsS.cons' true ?_ (fun _ _ _ _ _ _ _=>rfl) ?_
 ·intro D env1 hA;have e25:D 25=true:=hA.yes 25 _ rfl rfl;exact OpS.yp [(25,true),(27,false)] ⟨e25,hA.me,trivial⟩ (Want.plain rfl) (OpR.rowStore0M (j:=a1) e_merge_run_int x3 1 hx4 rfl rfl rfl rfl rfl rfl rfl rfl rfl) (fun x=>rfl) (fun x=>rfl)
 exact trivial
noncomputable def container_heap_up.l1 (a2:List row_Row) (a3:List order_By) (a4:List UInt8) (s2:Int × (List merge_run_int)):Option (Lp (Int × (List merge_run_int)) (List merge_run_int)):=
 bnd (if (w64 (quo (w64 (s2.1-1)) 1))=s2.1 then
 some true
else
 bnd (merge_runs_int_Less s2.1 (w64 (quo (w64 (s2.1-1)) 1)) s2.2 a2 a3 a4) fun x12=>
 some (!x12):Option Bool) fun t10=>
 if t10=true then
 some (Lp.done s2.2)
else
 bnd (merge_runs_int_Swap (w64 (quo (w64 (s2.1-1)) 1)) s2.1 s2.2 a2 a3 a4) fun x14=>
 some (Lp.next (w64 (quo (w64 (s2.1-1)) 1),x14))
noncomputable def container_heap_up (a0:Int) (a1:List merge_run_int) (a2:List row_Row) (a3:List order_By) (a4:List UInt8):Option (List merge_run_int):=
 bnd (loop (container_heap_up.l1 a2 a3 a4) (a0,a1):Option (List merge_run_int)) fun t1=>
 some t1
theorem container_heap_up_c {a0:Int} {a1:List merge_run_int} {a2:List row_Row} {a3:List order_By} {a4:List UInt8} {b0:Nat} {v1:Value} {b2:Nat} {b3:Nat} {b4:Nat} {b5:Nat} {b6:Nat} {v7:Value} {res:(List merge_run_int)} (h0:container_heap_up a0 a1 a2 a3 a4=some res):CallF X 264 [.ifc 352 (dP b0),dN a0] [.var b0 [.val v1,.fn (.func 190) [] [dP b2,dP b3]] 355,.row v1 (List.map e_merge_run_int a1) 2 357,.var b2 [.fn (.func 170) [] [dP b4,dP b5]] 170,.var b3 [.sl 3 (List.map e_row_Row a2)] 163,.var b4 [.sl 2 (List.map e_order_By a3)] 104,.var b5 [dP b6] 28,.var b6 [.val v7] 264,.row v7 (lB a4) 1 5] (fun x=>.tup []) (fun x=>[.var b0 [.val v1,.fn (.func 190) [] [dP b2,dP b3]] 355,.row v1 (List.map e_merge_run_int res) 2 357,.var b2 [.fn (.func 170) [] [dP b4,dP b5]] 170,.var b3 [.sl 3 (List.map e_row_Row a2)] 163,.var b4 [.sl 2 (List.map e_order_By a3)] 104,.var b5 [dP b6] 28,.var b6 [.val v7] 264,.row v7 (lB a4) 1 5]):=by
 unfold container_heap_up at h0;refine CallF.mkG (X:=X) rfl Tryz.func264 rfl rfl Tryz.ntmps264 rfl rfl ?_;obtain⟨t1,ht1,h0⟩:=bS h0;refine T.cutN (fun S'=>S'=⟨[],[.var b0 [.val v1,.fn (.func 190) [] [dP b2,dP b3]] 355,.row v1 (List.map e_merge_run_int t1) 2 357,.var b2 [.fn (.func 170) [] [dP b4,dP b5]] 170,.var b3 [.sl 3 (List.map e_row_Row a2)] 163,.var b4 [.sl 2 (List.map e_order_By a3)] 104,.var b5 [dP b6] 28,.var b6 [.val v7] 264,.row v7 (lB a4) 1 5],23⟩) (fun _ _ g ⟨h,S',ds,g',r⟩=>⟨h,S',ds,Gst.trans g g',r⟩) ?_ ?_;rotate_left
 ·rintro _ rfl;obtain rfl:=osi h0;exact PostG.finP (ks:=[0,1,2,3,4,5,6,7]) (Gst.only [] rfl) undef ResL.nil rfl rfl rfl rfl
 refine T.block ?_;obtain⟨n3,n8⟩:=loop_some ht1;refine T.loop (fun n S'=>∃ S'',Gst S' S''∧∃ s2:Int × (List merge_run_int),S''=⟨[(1,(dN s2.1)),(0,.ifc 352 (dP b0))],[.var b0 [.val v1,.fn (.func 190) [] [dP b2,dP b3]] 355,.row v1 (List.map e_merge_run_int s2.2) 2 357,.var b2 [.fn (.func 170) [] [dP b4,dP b5]] 170,.var b3 [.sl 3 (List.map e_row_Row a2)] 163,.var b4 [.sl 2 (List.map e_order_By a3)] 104,.var b5 [dP b6] 28,.var b6 [.val v7] 264,.row v7 (lB a4) 1 5],23⟩∧iter (container_heap_up.l1 a2 a3 a4) n s2=some t1) n3 ?_ ?_
 ·exact⟨_,Gst.only [0,1] rfl,(a0,a1),rfl,n8⟩
 rintro n3 _ ⟨_,g,s2,rfl,i7⟩;refine T.ghost g ?_;obtain⟨m4,q5,rfl,q6,i7⟩:=iter_succ i7;unfold container_heap_up.l1 at q6;refine T.block ?_;refine aS ?_;iterate 4 refine aA rfl rfl ?_
 refine aN rfl ?_;refine T.seq ?_;refine T.seq ?_;obtain⟨t10,ht10,q6⟩:=bS q6;refine T.cutC (fun S'=>S'=⟨[(17,(dT t10)),(4,(dN (w64 (quo (w64 (s2.1-1)) 1)))),(1,(dN s2.1)),(0,.ifc 352 (dP b0))],[.var b0 [.val v1,.fn (.func 190) [] [dP b2,dP b3]] 355,.row v1 (List.map e_merge_run_int s2.2) 2 357,.var b2 [.fn (.func 170) [] [dP b4,dP b5]] 170,.var b3 [.sl 3 (List.map e_row_Row a2)] 163,.var b4 [.sl 2 (List.map e_order_By a3)] 104,.var b5 [dP b6] 28,.var b6 [.val v7] 264,.row v7 (lB a4) 1 5],23⟩) (fun _ h=>h) ?_ ?_;rotate_left
 ·rintro _ rfl;show T X _ _ _;rcases ite_some q6 with ⟨c13,q6⟩|⟨c13,q6⟩
  ·refine T.condT rfl (c13) ?_;refine T.exit ?_;obtain rfl:=osi q6;obtain rfl:_=_:=i7;exact⟨_,Gst.only [] rfl,rfl⟩
  refine T.condF rfl (eq_false_of_ne_true c13) ?_;refine aK rfl ?_;refine aS ?_;iterate 3 refine aA rfl rfl ?_
  obtain⟨x14,hx14,q6⟩:=bS q6;refine TL.op1 (OpR.callI [0,1,2,3,4,5,6,7] rfl mt352_Swap fn305 (merge_runs_int_Swap_c hx14) rfl rfl rfl (fun _=>rfl)) rfl ?_;refine aN rfl ?_;refine T.region ?_;iterate 2 refine aA rfl rfl ?_
  refine TL.nil ?_;obtain rfl:=osi q6;exact⟨m4,Nat.lt_succ_self _,_,Gst.only [0,1] rfl,(w64 (quo (w64 (s2.1-1)) 1),x14),rfl,i7⟩
 refine T.region ?_;iterate 4 refine aA rfl rfl ?_
 rcases ite_some ht10 with ⟨c11,ht10⟩|⟨c11,ht10⟩
 ·refine TL.off rfl rfl rfl rfl (beq_iff_eq.2 c11) rfl rfl ?_;refine TL.off rfl rfl rfl rfl (beq_iff_eq.2 c11) rfl rfl ?_;refine TL.off rfl rfl rfl rfl (beq_iff_eq.2 c11) rfl rfl ?_;refine TL.off rfl rfl rfl rfl (beq_iff_eq.2 c11) rfl rfl ?_;refine TL.off rfl rfl rfl rfl (beq_iff_eq.2 c11) rfl rfl ?_;refine TL.op1 (OpR.pickT rfl (beq_iff_eq.2 c11) rfl) rfl ?_;refine TL.nil ?_;obtain rfl:=osi ht10;exact⟨_,Gst.only [0,1,4,17] rfl,rfl⟩
 refine TL.on rfl rfl rfl rfl (beq_eq_false_iff_ne.2 c11) ?_;refine aA rfl rfl ?_;refine TL.on rfl rfl rfl rfl (beq_eq_false_iff_ne.2 c11) ?_;refine aA rfl rfl ?_;refine TL.on rfl rfl rfl rfl (beq_eq_false_iff_ne.2 c11) ?_;refine aA rfl rfl ?_;refine TL.on rfl rfl rfl rfl (beq_eq_false_iff_ne.2 c11) ?_;obtain⟨x12,hx12,ht10⟩:=bS ht10;refine TL.op1 (OpR.callI [0,1,2,3,4,5,6,7] rfl mt352_Less fn302 (merge_runs_int_Less_c hx12) rfl rfl rfl (fun _=>rfl)) rfl ?_;refine TL.on rfl rfl rfl rfl (beq_eq_false_iff_ne.2 c11) ?_;refine aA rfl rfl ?_;refine TL.op1 (OpR.pickF rfl (beq_eq_false_iff_ne.2 c11) rfl) rfl ?_;refine TL.nil ?_;obtain rfl:=osi ht10;exact⟨_,Gst.only [0,1,4,17] rfl,rfl⟩
noncomputable def container_heap_Push_2 (a0:merge_run_int) (a1:List merge_run_int) (a2:List row_Row) (a3:List order_By) (a4:List UInt8):Option (List merge_run_int):=
 bnd (merge_runs_int_Push_2 a0 a1 a2 a3 a4) fun x1=>
 bnd (merge_runs_int_Len x1 a2 a3 a4) fun x3=>
 bnd (container_heap_up (w64 (x3-1)) x1 a2 a3 a4) fun x4=>
 some x4
theorem container_heap_Push_2_c {a0:merge_run_int} {a1:List merge_run_int} {a2:List row_Row} {a3:List order_By} {a4:List UInt8} {b0:Nat} {v1:Value} {b2:Nat} {b3:Nat} {b4:Nat} {b5:Nat} {b6:Nat} {v7:Value} {res:(List merge_run_int)} (h0:container_heap_Push_2 a0 a1 a2 a3 a4=some res):CallF X 241 [.ifc 352 (dP b0),.ifc 357 (.agg [.sl 1 (List.map (eI .i64) a0.fRest),dN a0.fWhich])] [.var b0 [.val v1,.fn (.func 190) [] [dP b2,dP b3]] 355,.row v1 (List.map e_merge_run_int a1) 2 357,.var b2 [.fn (.func 170) [] [dP b4,dP b5]] 170,.var b3 [.sl 3 (List.map e_row_Row a2)] 163,.var b4 [.sl 2 (List.map e_order_By a3)] 104,.var b5 [dP b6] 28,.var b6 [.val v7] 264,.row v7 (lB a4) 1 5] (fun x=>.tup []) (fun x=>[.var b0 [.val (vn x 0),.fn (.func 190) [] [dP b2,dP b3]] 355,.row (vn x 0) (List.map e_merge_run_int res) 2 357,.var b2 [.fn (.func 170) [] [dP b4,dP b5]] 170,.var b3 [.sl 3 (List.map e_row_Row a2)] 163,.var b4 [.sl 2 (List.map e_order_By a3)] 104,.var b5 [dP b6] 28,.var b6 [.val v7] 264,.row v7 (lB a4) 1 5]):=by
 unfold container_heap_Push_2 at h0;refine CallF.mkG (X:=X) rfl Tryz.func241 rfl rfl Tryz.ntmps241 rfl rfl ?_;refine aS ?_;iterate 2 refine aA rfl rfl ?_
 obtain⟨x1,hx1,h0⟩:=bS h0;refine TL.op (OpR.callI [0,1,2,3,4,5,6,7] rfl mt352_Push fn304 (merge_runs_int_Push_2_c hx1) rfl rfl rfl (fun _=>rfl)) rfl (fun w2=>?_);refine aN rfl ?_;refine T.region ?_;iterate 2 refine aA rfl rfl ?_
 obtain⟨x3,hx3,h0⟩:=bS h0;refine TL.op1 (OpR.callI [0,1,2,3,4,5,6,7] rfl mt352_Len fn268 (merge_runs_int_Len_c hx3) rfl rfl rfl (fun _=>rfl)) rfl ?_;refine aA rfl rfl ?_;obtain⟨x4,hx4,h0⟩:=bS h0;refine TL.op1 (OpR.call [0,1,2,3,4,5,6,7] fn264 (container_heap_up_c hx4) rfl rfl rfl (fun _=>rfl)) rfl ?_;refine TL.nil ?_;obtain rfl:=osi h0;exact PostG.finP (ks:=[0,1,2,3,4,5,6,7]) (Gst.only [] rfl) (.tuple #[(vn w2 0)]) ResL.nil rfl rfl rfl rfl
noncomputable def container_heap_down.l1 (a1:Int) (a3:List row_Row) (a4:List order_By) (a5:List UInt8) (s2:Int × (List merge_run_int)):Option (Lp (Int × (List merge_run_int)) (Int × (List merge_run_int))):=
 bnd (if (w64 ((w64 (2*s2.1))+1))≥a1 then
 some true
else
 some (decide ((w64 ((w64 (2*s2.1))+1))<0)):Option Bool) fun t10=>
 if t10=true then
 some (Lp.done (s2.1,s2.2))
else
 bnd (if (w64 ((w64 ((w64 (2*s2.1))+1))+1))<a1 then
 bnd (merge_runs_int_Less (w64 ((w64 ((w64 (2*s2.1))+1))+1)) (w64 ((w64 (2*s2.1))+1)) s2.2 a3 a4 a5) fun x15=>
 some x15
else
 some false:Option Bool) fun t13=>
 bnd (if t13=true then
 some (w64 ((w64 ((w64 (2*s2.1))+1))+1))
else
 some (w64 ((w64 (2*s2.1))+1)):Option Int) fun t16=>
 bnd (merge_runs_int_Less t16 s2.1 s2.2 a3 a4 a5) fun x18=>
 if x18=true then
 bnd (merge_runs_int_Swap s2.1 t16 s2.2 a3 a4 a5) fun x20=>
 some (Lp.next (t16,x20))
else
 some (Lp.done (s2.1,s2.2))
noncomputable def container_heap_down (a0:Int) (a1:Int) (a2:List merge_run_int) (a3:List row_Row) (a4:List order_By) (a5:List UInt8):Option (Bool × (List merge_run_int)):=
 bnd (loop (container_heap_down.l1 a1 a3 a4 a5) (a0,a2):Option (Int × (List merge_run_int))) fun t1=>
 some (decide (t1.1>a0),t1.2)
theorem container_heap_down_c {a0:Int} {a1:Int} {a2:List merge_run_int} {a3:List row_Row} {a4:List order_By} {a5:List UInt8} {b0:Nat} {v1:Value} {b2:Nat} {b3:Nat} {b4:Nat} {b5:Nat} {b6:Nat} {v7:Value} {res:Bool × (List merge_run_int)} (h0:container_heap_down a0 a1 a2 a3 a4 a5=some res):CallF X 265 [.ifc 352 (dP b0),dN a0,dN a1] [.var b0 [.val v1,.fn (.func 190) [] [dP b2,dP b3]] 355,.row v1 (List.map e_merge_run_int a2) 2 357,.var b2 [.fn (.func 170) [] [dP b4,dP b5]] 170,.var b3 [.sl 3 (List.map e_row_Row a3)] 163,.var b4 [.sl 2 (List.map e_order_By a4)] 104,.var b5 [dP b6] 28,.var b6 [.val v7] 264,.row v7 (lB a5) 1 5] (fun x=>(dT res.1)) (fun x=>[.var b0 [.val v1,.fn (.func 190) [] [dP b2,dP b3]] 355,.row v1 (List.map e_merge_run_int res.2) 2 357,.var b2 [.fn (.func 170) [] [dP b4,dP b5]] 170,.var b3 [.sl 3 (List.map e_row_Row a3)] 163,.var b4 [.sl 2 (List.map e_order_By a4)] 104,.var b5 [dP b6] 28,.var b6 [.val v7] 264,.row v7 (lB a5) 1 5]):=by
 unfold container_heap_down at h0;refine CallF.mkG (X:=X) rfl Tryz.func265 rfl rfl Tryz.ntmps265 rfl rfl ?_;refine aS ?_;refine aA rfl rfl ?_;refine aN rfl ?_;refine aS ?_;iterate 2 refine aA rfl rfl ?_
 refine aN rfl ?_;refine T.seq ?_;obtain⟨t1,ht1,h0⟩:=bS h0;refine T.cutC (fun S'=>S'=⟨[(7,(dN t1.1)),(6,(dT false)),(1,(dN a0))],[.var b0 [.val v1,.fn (.func 190) [] [dP b2,dP b3]] 355,.row v1 (List.map e_merge_run_int t1.2) 2 357,.var b2 [.fn (.func 170) [] [dP b4,dP b5]] 170,.var b3 [.sl 3 (List.map e_row_Row a3)] 163,.var b4 [.sl 2 (List.map e_order_By a4)] 104,.var b5 [dP b6] 28,.var b6 [.val v7] 264,.row v7 (lB a5) 1 5],48⟩) (fun _ h=>h) ?_ ?_;rotate_left
 ·rintro _ rfl;show T X _ _ _;refine aS ?_;iterate 4 refine aA rfl rfl ?_
  refine aN rfl ?_;refine T.ret ?_;obtain rfl:=osi h0;exact rO [0,1,2,3,4,5,6,7] [6] rfl undef (cT rfl ResL.nil) rfl rfl rfl rfl
 refine T.block ?_;obtain⟨n3,n8⟩:=loop_some ht1;refine T.loop (fun n S'=>∃ S'',Gst S' S''∧∃ s2:Int × (List merge_run_int),S''=⟨[(7,(dN s2.1)),(6,(dT false)),(2,(dN a1)),(1,(dN a0)),(0,.ifc 352 (dP b0))],[.var b0 [.val v1,.fn (.func 190) [] [dP b2,dP b3]] 355,.row v1 (List.map e_merge_run_int s2.2) 2 357,.var b2 [.fn (.func 170) [] [dP b4,dP b5]] 170,.var b3 [.sl 3 (List.map e_row_Row a3)] 163,.var b4 [.sl 2 (List.map e_order_By a4)] 104,.var b5 [dP b6] 28,.var b6 [.val v7] 264,.row v7 (lB a5) 1 5],48⟩∧iter (container_heap_down.l1 a1 a3 a4 a5) n s2=some t1) n3 ?_ ?_
 ·exact⟨_,Gst.only [0,1,2,6,7] rfl,(a0,a2),rfl,n8⟩
 rintro n3 _ ⟨_,g,s2,rfl,i7⟩;refine T.ghost g ?_;obtain⟨m4,q5,rfl,q6,i7⟩:=iter_succ i7;unfold container_heap_down.l1 at q6;refine T.block ?_;refine aS ?_;iterate 4 refine aA rfl rfl ?_
 refine aN rfl ?_;refine T.seq ?_;refine T.seq ?_;obtain⟨t10,ht10,q6⟩:=bS q6;refine T.cutC (fun S'=>S'=⟨[(21,(dT t10)),(8,(dN (w64 ((w64 (2*s2.1))+1)))),(7,(dN s2.1)),(6,(dT false)),(2,(dN a1)),(1,(dN a0)),(0,.ifc 352 (dP b0))],[.var b0 [.val v1,.fn (.func 190) [] [dP b2,dP b3]] 355,.row v1 (List.map e_merge_run_int s2.2) 2 357,.var b2 [.fn (.func 170) [] [dP b4,dP b5]] 170,.var b3 [.sl 3 (List.map e_row_Row a3)] 163,.var b4 [.sl 2 (List.map e_order_By a4)] 104,.var b5 [dP b6] 28,.var b6 [.val v7] 264,.row v7 (lB a5) 1 5],48⟩) (fun _ h=>h) ?_ ?_
 ·refine T.region ?_;iterate 4 refine aA rfl rfl ?_
  rcases ite_some ht10 with ⟨c11,ht10⟩|⟨c11,ht10⟩
  ·refine TL.off rfl rfl rfl rfl (eT c11) rfl rfl ?_;refine TL.off rfl rfl rfl rfl (eT c11) rfl rfl ?_;refine TL.op1 (OpR.pickT rfl (eT c11) rfl) rfl ?_;refine TL.nil ?_;obtain rfl:=osi ht10;exact⟨_,Gst.only [0,1,2,6,7,8,21] rfl,rfl⟩
  refine TL.on rfl rfl rfl rfl (eF c11) ?_;refine aA rfl rfl ?_;refine TL.on rfl rfl rfl rfl (eF c11) ?_;refine aA rfl rfl ?_;refine TL.op1 (OpR.pickF rfl (eF c11) rfl) rfl ?_;refine TL.nil ?_;obtain rfl:=osi ht10;exact⟨_,Gst.only [0,1,2,6,7,8,21] rfl,rfl⟩
 rintro _ rfl;show T X _ _ _;rcases ite_some q6 with ⟨c12,q6⟩|⟨c12,q6⟩
 ·refine T.condT rfl (c12) ?_;refine T.exit ?_;obtain rfl:=osi q6;obtain rfl:_=_:=i7;exact⟨_,Gst.only [1,6,7] rfl,rfl⟩
 refine T.condF rfl (eq_false_of_ne_true c12) ?_;refine aK rfl ?_;refine aS ?_;iterate 2 refine aA rfl rfl ?_
 refine aN rfl ?_;refine T.seq ?_;refine aS ?_;iterate 3 refine aA rfl rfl ?_
 refine aN rfl ?_;refine T.seq ?_;obtain⟨t13,ht13,q6⟩:=bS q6;refine T.cutC (fun S'=>S'=⟨[(33,(dT t13)),(10,(dN (w64 ((w64 ((w64 (2*s2.1))+1))+1)))),(9,(dN (w64 ((w64 (2*s2.1))+1)))),(7,(dN s2.1)),(6,(dT false)),(2,(dN a1)),(1,(dN a0)),(0,.ifc 352 (dP b0))],[.var b0 [.val v1,.fn (.func 190) [] [dP b2,dP b3]] 355,.row v1 (List.map e_merge_run_int s2.2) 2 357,.var b2 [.fn (.func 170) [] [dP b4,dP b5]] 170,.var b3 [.sl 3 (List.map e_row_Row a3)] 163,.var b4 [.sl 2 (List.map e_order_By a4)] 104,.var b5 [dP b6] 28,.var b6 [.val v7] 264,.row v7 (lB a5) 1 5],48⟩) (fun _ h=>h) ?_ ?_
 ·refine T.region ?_;iterate 4 refine aA rfl rfl ?_
  rcases ite_some ht13 with ⟨c14,ht13⟩|⟨c14,ht13⟩;rotate_left
  ·refine TL.off rfl rfl rfl rfl (eF c14) rfl rfl ?_;refine TL.off rfl rfl rfl rfl (eF c14) rfl rfl ?_;refine TL.off rfl rfl rfl rfl (eF c14) rfl rfl ?_;refine TL.off rfl rfl rfl rfl (eF c14) rfl rfl ?_;refine TL.op1 (OpR.pickF rfl (eF c14) rfl) rfl ?_;refine TL.nil ?_;obtain rfl:=osi ht13;exact⟨_,Gst.only [0,1,2,6,7,9,10,33] rfl,rfl⟩
  refine TL.on rfl rfl rfl rfl (eT c14) ?_;refine aA rfl rfl ?_;refine TL.on rfl rfl rfl rfl (eT c14) ?_;refine aA rfl rfl ?_;refine TL.on rfl rfl rfl rfl (eT c14) ?_;refine aA rfl rfl ?_;refine TL.on rfl rfl rfl rfl (eT c14) ?_;obtain⟨x15,hx15,ht13⟩:=bS ht13;refine TL.op1 (OpR.callI [0,1,2,3,4,5,6,7] rfl mt352_Less fn302 (merge_runs_int_Less_c hx15) rfl rfl rfl (fun _=>rfl)) rfl ?_;refine TL.op1 (OpR.pickT rfl (eT c14) rfl) rfl ?_;refine TL.nil ?_;obtain rfl:=osi ht13;exact⟨_,Gst.only [0,1,2,6,7,9,10,33] rfl,rfl⟩
 rintro _ rfl;show T X _ _ _;obtain⟨t16,ht16,q6⟩:=bS q6;refine T.cutC (fun S'=>S'=⟨[(9,(dN t16)),(7,(dN s2.1)),(6,(dT false)),(2,(dN a1)),(1,(dN a0)),(0,.ifc 352 (dP b0))],[.var b0 [.val v1,.fn (.func 190) [] [dP b2,dP b3]] 355,.row v1 (List.map e_merge_run_int s2.2) 2 357,.var b2 [.fn (.func 170) [] [dP b4,dP b5]] 170,.var b3 [.sl 3 (List.map e_row_Row a3)] 163,.var b4 [.sl 2 (List.map e_order_By a4)] 104,.var b5 [dP b6] 28,.var b6 [.val v7] 264,.row v7 (lB a5) 1 5],48⟩) (fun _ h=>h) ?_ ?_
 ·rcases ite_some ht16 with ⟨c17,ht16⟩|⟨c17,ht16⟩;rotate_left
  ·refine T.condF rfl (eq_false_of_ne_true c17) ?_;refine T.skip ?_;obtain rfl:=osi ht16;exact⟨_,Gst.only [0,1,2,6,7,9] rfl,rfl⟩
  refine T.condT rfl (c17) ?_;refine T.region ?_;iterate 2 refine aA rfl rfl ?_
  refine TL.nil ?_;obtain rfl:=osi ht16;exact⟨_,Gst.only [0,1,2,6,7,9] rfl,rfl⟩
 rintro _ rfl;show T X _ _ _;refine T.seq ?_;refine aS ?_;iterate 3 refine aA rfl rfl ?_
 obtain⟨x18,hx18,q6⟩:=bS q6;refine TL.op1 (OpR.callI [0,1,2,3,4,5,6,7] rfl mt352_Less fn302 (merge_runs_int_Less_c hx18) rfl rfl rfl (fun _=>rfl)) rfl ?_;refine aA rfl rfl ?_;refine aN rfl ?_;rcases ite_some q6 with ⟨c19,q6⟩|⟨c19,q6⟩;rotate_left
 ·refine T.condT rfl (not_f (eq_false_of_ne_true c19)) ?_;refine T.exit ?_;obtain rfl:=osi q6;obtain rfl:_=_:=i7;exact⟨_,Gst.only [1,6,7] rfl,rfl⟩
 refine T.condF rfl (not_t (c19)) ?_;refine aK rfl ?_;refine aS ?_;iterate 3 refine aA rfl rfl ?_
 obtain⟨x20,hx20,q6⟩:=bS q6;refine TL.op1 (OpR.callI [0,1,2,3,4,5,6,7] rfl mt352_Swap fn305 (merge_runs_int_Swap_c hx20) rfl rfl rfl (fun _=>rfl)) rfl ?_;refine aN rfl ?_;refine T.region ?_;iterate 2 refine aA rfl rfl ?_
 refine TL.nil ?_;obtain rfl:=osi q6;exact⟨m4,Nat.lt_succ_self _,_,Gst.only [0,1,2,6,7] rfl,(t16,x20),rfl,i7⟩
noncomputable def merge_runs_int_Pop (a0:List merge_run_int) (a1:List row_Row) (a2:List order_By) (a3:List UInt8):Option (merge_run_int × (List merge_run_int)):=
 bnd (idx a0 (w64 ((a0.length:Int)-1))) fun x1=>
 bnd (cut a0 0 (w64 ((a0.length:Int)-1))) fun x3=>
 some (x1,x3)
theorem merge_runs_int_Pop_c {a0:List merge_run_int} {a1:List row_Row} {a2:List order_By} {a3:List UInt8} {b0:Nat} {v1:Value} {b2:Nat} {b3:Nat} {b4:Nat} {b5:Nat} {b6:Nat} {v7:Value} {res:merge_run_int × (List merge_run_int)} (h0:merge_runs_int_Pop a0 a1 a2 a3=some res):CallF X 303 [dP b0] [.var b0 [.val v1,.fn (.func 190) [] [dP b2,dP b3]] 355,.row v1 (List.map e_merge_run_int a0) 2 357,.var b2 [.fn (.func 170) [] [dP b4,dP b5]] 170,.var b3 [.sl 3 (List.map e_row_Row a1)] 163,.var b4 [.sl 2 (List.map e_order_By a2)] 104,.var b5 [dP b6] 28,.var b6 [.val v7] 264,.row v7 (lB a3) 1 5] (fun x=>.ifc 357 (.agg [.sl 1 (List.map (eI .i64) res.1.fRest),dN res.1.fWhich])) (fun x=>[.var b0 [.val (vn x 0),.fn (.func 190) [] [dP b2,dP b3]] 355,.row (vn x 0) (List.map e_merge_run_int res.2) 2 357,.var b2 [.fn (.func 170) [] [dP b4,dP b5]] 170,.var b3 [.sl 3 (List.map e_row_Row a1)] 163,.var b4 [.sl 2 (List.map e_order_By a2)] 104,.var b5 [dP b6] 28,.var b6 [.val v7] 264,.row v7 (lB a3) 1 5]):=by
 unfold merge_runs_int_Pop at h0;refine CallF.mkG (X:=X) rfl Tryz.func303 rfl rfl Tryz.ntmps303 rfl rfl ?_;refine aS ?_;refine aA rfl rfl ?_;refine aN rfl ?_;refine aS ?_;iterate 3 refine aA rfl rfl ?_
 refine TL.op1 (OpR.loadPtr 0 rfl rfl rfl rfl) rfl ?_;refine TL.op1 (OpR.rowLenM e_merge_run_int 1 rfl rfl rfl rfl) rfl ?_;iterate 2 refine aA rfl rfl ?_
 refine aN rfl ?_;refine aS ?_;iterate 3 refine aA rfl rfl ?_
 refine TL.op1 (OpR.loadPtr 0 rfl rfl rfl rfl) rfl ?_;refine aA rfl rfl ?_;obtain⟨x1,hx1,h0⟩:=bS h0;refine TL.op1 (OpR.rowIndexM e_merge_run_int 1 hx1 rfl rfl rfl rfl rfl rfl rfl) rfl ?_;refine TL.op1 (OpR.rowLoad0M (j:=w64 ((a0.length:Int)-1)) e_merge_run_int 1 hx1 rfl rfl rfl rfl) rfl ?_;refine TL.op (OpR.alloc rfl rfl (fun _=>rfl)) rfl (fun p2=>?_);refine TL.op0 (OpR.store 8 rfl rfl rfl rfl rfl rfl rfl rfl) ?_;refine aN rfl ?_;refine aS ?_;iterate 4 refine aA rfl rfl ?_
 refine TL.op1 (OpR.loadPtr 0 rfl rfl rfl rfl) rfl ?_;refine aA rfl rfl ?_;obtain⟨x3,hx3,h0⟩:=bS h0;refine TL.op1 (OpR.sliceRowM e_merge_run_int 1 hx3 rfl rfl rfl rfl rfl rfl BdM.none (BdM.some rfl)) rfl ?_;iterate 2 refine aA rfl rfl ?_
 refine TL.op0 (OpR.store 0 rfl rfl rfl rfl rfl rfl rfl rfl) ?_;refine aN rfl ?_;refine T.ghost (Gst.truncM (ow:=[.var b0 [.val (vw v1 (0:Int).toNat (w64 ((a0.length:Int)-1):Int).toNat 2),.fn (.func 190) [] [dP b2,dP b3]] 355,.row v1 (List.map e_merge_run_int a0) 2 357,.var b2 [.fn (.func 170) [] [dP b4,dP b5]] 170,.var b3 [.sl 3 (List.map e_row_Row a1)] 163,.var b4 [.sl 2 (List.map e_order_By a2)] 104,.var b5 [dP b6] 28,.var b6 [.val v7] 264,.row v7 (lB a3) 1 5,.var (blk p2) [.sl 1 (List.map (eI .i64) x1.fRest),dN x1.fWhich] 357]) e_merge_run_int 1 hx3 rfl rfl) ?_;refine aS ?_;refine TL.op1 (OpR.loadPtr 8 rfl rfl rfl rfl) rfl ?_;refine TL.op1 (OpR.mkIfc rfl rfl rfl) rfl ?_;refine aA rfl rfl ?_;refine aN rfl ?_;refine T.ret ?_;obtain rfl:=osi h0;exact rP [0,1,2,3,4,5,6,7] [2] [0,1,2,3,4,5,6,7] rfl rfl rfl (.tuple #[(vw v1 (0:Int).toNat (w64 ((a0.length:Int)-1):Int).toNat 2)]) (cT rfl ResL.nil) rfl rfl rfl rfl
noncomputable def container_heap_Pop (a0:List merge_run_int) (a1:List row_Row) (a2:List order_By) (a3:List UInt8):Option (merge_run_int × (List merge_run_int)):=
 bnd (merge_runs_int_Len a0 a1 a2 a3) fun x1=>
 bnd (merge_runs_int_Swap 0 (w64 (x1-1)) a0 a1 a2 a3) fun x2=>
 bnd (container_heap_down 0 (w64 (x1-1)) x2 a1 a2 a3) fun x3=>
 bnd (merge_runs_int_Pop x3.2 a1 a2 a3) fun x4=>
 some (x4.1,x4.2)
theorem container_heap_Pop_c {a0:List merge_run_int} {a1:List row_Row} {a2:List order_By} {a3:List UInt8} {b0:Nat} {v1:Value} {b2:Nat} {b3:Nat} {b4:Nat} {b5:Nat} {b6:Nat} {v7:Value} {res:merge_run_int × (List merge_run_int)} (h0:container_heap_Pop a0 a1 a2 a3=some res):CallF X 243 [.ifc 352 (dP b0)] [.var b0 [.val v1,.fn (.func 190) [] [dP b2,dP b3]] 355,.row v1 (List.map e_merge_run_int a0) 2 357,.var b2 [.fn (.func 170) [] [dP b4,dP b5]] 170,.var b3 [.sl 3 (List.map e_row_Row a1)] 163,.var b4 [.sl 2 (List.map e_order_By a2)] 104,.var b5 [dP b6] 28,.var b6 [.val v7] 264,.row v7 (lB a3) 1 5] (fun x=>.ifc 357 (.agg [.sl 1 (List.map (eI .i64) res.1.fRest),dN res.1.fWhich])) (fun x=>[.var b0 [.val (vn x 0),.fn (.func 190) [] [dP b2,dP b3]] 355,.row (vn x 0) (List.map e_merge_run_int res.2) 2 357,.var b2 [.fn (.func 170) [] [dP b4,dP b5]] 170,.var b3 [.sl 3 (List.map e_row_Row a1)] 163,.var b4 [.sl 2 (List.map e_order_By a2)] 104,.var b5 [dP b6] 28,.var b6 [.val v7] 264,.row v7 (lB a3) 1 5]):=by
 unfold container_heap_Pop at h0;refine CallF.mkG (X:=X) rfl Tryz.func243 rfl rfl Tryz.ntmps243 rfl rfl ?_;refine aS ?_;refine aA rfl rfl ?_;refine aN rfl ?_;refine aS ?_;refine aA rfl rfl ?_;obtain⟨x1,hx1,h0⟩:=bS h0;refine TL.op1 (OpR.callI [0,1,2,3,4,5,6,7] rfl mt352_Len fn268 (merge_runs_int_Len_c hx1) rfl rfl rfl (fun _=>rfl)) rfl ?_;iterate 2 refine aA rfl rfl ?_
 refine aN rfl ?_;refine aS ?_;iterate 2 refine aA rfl rfl ?_
 obtain⟨x2,hx2,h0⟩:=bS h0;refine TL.op1 (OpR.callI [0,1,2,3,4,5,6,7] rfl mt352_Swap fn305 (merge_runs_int_Swap_c hx2) rfl rfl rfl (fun _=>rfl)) rfl ?_;refine aN rfl ?_;refine aS ?_;iterate 2 refine aA rfl rfl ?_
 obtain⟨x3,hx3,h0⟩:=bS h0;refine TL.op1 (OpR.call [0,1,2,3,4,5,6,7] fn265 (container_heap_down_c hx3) rfl rfl rfl (fun _=>rfl)) rfl ?_;refine aN rfl ?_;refine aS ?_;refine aA rfl rfl ?_;obtain⟨x4,hx4,h0⟩:=bS h0;refine TL.op (OpR.callI [0,1,2,3,4,5,6,7] rfl mt352_Pop fn303 (merge_runs_int_Pop_c hx4) rfl rfl rfl (fun _=>rfl)) rfl (fun w5=>?_);refine aA rfl rfl ?_;refine aN rfl ?_;refine T.ret ?_;obtain rfl:=osi h0;exact rO [0,1,2,3,4,5,6,7] [2] rfl (.tuple #[(vn w5 0)]) (cT rfl ResL.nil) rfl rfl rfl rfl
noncomputable def container_heap_Fix (a0:Int) (a1:List merge_run_int) (a2:List row_Row) (a3:List order_By) (a4:List UInt8):Option (List merge_run_int):=
 bnd (merge_runs_int_Len a1 a2 a3 a4) fun x1=>
 bnd (container_heap_down a0 x1 a1 a2 a3 a4) fun x2=>
 if x2.1=true then
 some x2.2
else
 bnd (container_heap_up a0 x2.2 a2 a3 a4) fun x4=>
 some x4
theorem container_heap_Fix_c {a0:Int} {a1:List merge_run_int} {a2:List row_Row} {a3:List order_By} {a4:List UInt8} {b0:Nat} {v1:Value} {b2:Nat} {b3:Nat} {b4:Nat} {b5:Nat} {b6:Nat} {v7:Value} {res:(List merge_run_int)} (h0:container_heap_Fix a0 a1 a2 a3 a4=some res):CallF X 244 [.ifc 352 (dP b0),dN a0] [.var b0 [.val v1,.fn (.func 190) [] [dP b2,dP b3]] 355,.row v1 (List.map e_merge_run_int a1) 2 357,.var b2 [.fn (.func 170) [] [dP b4,dP b5]] 170,.var b3 [.sl 3 (List.map e_row_Row a2)] 163,.var b4 [.sl 2 (List.map e_order_By a3)] 104,.var b5 [dP b6] 28,.var b6 [.val v7] 264,.row v7 (lB a4) 1 5] (fun x=>.tup []) (fun x=>[.var b0 [.val v1,.fn (.func 190) [] [dP b2,dP b3]] 355,.row v1 (List.map e_merge_run_int res) 2 357,.var b2 [.fn (.func 170) [] [dP b4,dP b5]] 170,.var b3 [.sl 3 (List.map e_row_Row a2)] 163,.var b4 [.sl 2 (List.map e_order_By a3)] 104,.var b5 [dP b6] 28,.var b6 [.val v7] 264,.row v7 (lB a4) 1 5]):=by
 unfold container_heap_Fix at h0;refine CallF.mkG (X:=X) rfl Tryz.func244 rfl rfl Tryz.ntmps244 rfl rfl ?_;refine aS ?_;iterate 3 refine aA rfl rfl ?_
 obtain⟨x1,hx1,h0⟩:=bS h0;refine TL.op1 (OpR.callI [0,1,2,3,4,5,6,7] rfl mt352_Len fn268 (merge_runs_int_Len_c hx1) rfl rfl rfl (fun _=>rfl)) rfl ?_;obtain⟨x2,hx2,h0⟩:=bS h0;refine TL.op1 (OpR.call [0,1,2,3,4,5,6,7] fn265 (container_heap_down_c hx2) rfl rfl rfl (fun _=>rfl)) rfl ?_;refine aA rfl rfl ?_;refine aN rfl ?_;rcases ite_some h0 with ⟨c3,h0⟩|⟨c3,h0⟩
 ·refine T.condF rfl (not_t (c3)) ?_;refine T.skip ?_;obtain rfl:=osi h0;exact PostG.finP (ks:=[0,1,2,3,4,5,6,7]) (Gst.only [] rfl) undef ResL.nil rfl rfl rfl rfl
 refine T.condT rfl (not_f (eq_false_of_ne_true c3)) ?_;refine T.region ?_;iterate 2 refine aA rfl rfl ?_
 obtain⟨x4,hx4,h0⟩:=bS h0;refine TL.op1 (OpR.call [0,1,2,3,4,5,6,7] fn264 (container_heap_up_c hx4) rfl rfl rfl (fun _=>rfl)) rfl ?_;refine TL.nil ?_;obtain rfl:=osi h0;exact PostG.finP (ks:=[0,1,2,3,4,5,6,7]) (Gst.only [] rfl) undef ResL.nil rfl rfl rfl rfl
noncomputable def merge_first_int.l1 (a0:List (List Int)) (a2:List row_Row) (a3:List order_By) (a4:List UInt8) (s5:Int × (List merge_run_int)):Option (Lp (Int × (List merge_run_int)) (List merge_run_int)):=
 if s5.1<(a0.length:Int) then
 bnd (idx a0 s5.1) fun x14=>
 bnd (if (x14.length:Int)>0 then
 bnd (container_heap_Push_2 (⟨x14,s5.1⟩:merge_run_int) s5.2 a2 a3 a4) fun x18=>
 some x18
else
 some s5.2:Option (List merge_run_int)) fun t15=>
 some (Lp.next (w64 (s5.1+1),t15))
else
 some (Lp.done s5.2)
noncomputable def merge_first_int.l2 (a1:Int) (a2:List row_Row) (a3:List order_By) (a4:List UInt8) (s24:(List Int) × (List merge_run_int)):Option (Lp ((List Int) × (List merge_run_int)) (List Int)):=
 bnd (bnd (merge_runs_int_Len s24.2 a2 a3 a4) fun x33=>
 if x33>0 then
 some (decide ((s24.1.length:Int)<a1))
else
 some false:Option Bool) fun t32=>
 if t32=true then
 bnd (idx s24.2 0) fun x36=>
 bnd (idx x36.fRest 0) fun x37=>
 bnd (app 8 s24.1 [x37]) fun x38=>
 bnd (cut x36.fRest 1 (x36.fRest.length:Int)) fun x40=>
 bnd (idx (s24.2.set (0:Int).toNat (⟨x40,x36.fWhich⟩:merge_run_int)) 0) fun x41=>
 if (x41.fRest.length:Int)=0 then
 bnd (container_heap_Pop (s24.2.set (0:Int).toNat (⟨x40,x36.fWhich⟩:merge_run_int)) a2 a3 a4) fun x43=>
 some (Lp.next (x38,x43.2))
else
 bnd (container_heap_Fix 0 (s24.2.set (0:Int).toNat (⟨x40,x36.fWhich⟩:merge_run_int)) a2 a3 a4) fun x45=>
 some (Lp.next (x38,x45))
else
 some (Lp.done s24.1)
noncomputable def merge_first_int (a0:List (List Int)) (a1:Int) (a2:List row_Row) (a3:List order_By) (a4:List UInt8):Option (List Int):=
 bnd (loop (merge_first_int.l1 a0 a2 a3 a4) (0,[]):Option (List merge_run_int)) fun t2=>
 bnd (loop (merge_first_int.l2 a1 a2 a3 a4) ([],t2):Option (List Int)) fun t20=>
 some t20
theorem merge_first_int_c {a0:List (List Int)} {a1:Int} {a2:List row_Row} {a3:List order_By} {a4:List UInt8} {b0:Nat} {b1:Nat} {b2:Nat} {b3:Nat} {b4:Nat} {v5:Value} {res:(List Int)} (h0:merge_first_int a0 a1 a2 a3 a4=some res):CallF X 249 [.fn (.func 190) [] [dP b0,dP b1],.sl 1 (List.map e_sl76 a0),dN a1] [.var b0 [.fn (.func 170) [] [dP b2,dP b3]] 170,.var b1 [.sl 3 (List.map e_row_Row a2)] 163,.var b2 [.sl 2 (List.map e_order_By a3)] 104,.var b3 [dP b4] 28,.var b4 [.val v5] 264,.row v5 (lB a4) 1 5] (fun x=>.val (vn x 0)) (fun x=>[.var b0 [.fn (.func 170) [] [dP b2,dP b3]] 170,.var b1 [.sl 3 (List.map e_row_Row a2)] 163,.var b2 [.sl 2 (List.map e_order_By a3)] 104,.var b3 [dP b4] 28,.var b4 [.val v5] 264,.row v5 (lB a4) 1 5,.row (vn x 0) (List.map (eI .i64) res) 1 3]):=by
 unfold merge_first_int at h0;refine CallF.mkG (X:=X) rfl Tryz.func249 rfl rfl Tryz.ntmps249 rfl rfl ?_;refine aS ?_;refine aA rfl rfl ?_;refine aN rfl ?_;refine aS ?_;refine aA rfl rfl ?_;refine TL.op1 (OpR.build rfl rfl rfl rfl rfl) rfl ?_;refine TL.op (OpR.boxVar rfl rfl (fun _=>rfl)) rfl (fun p1=>?_);refine aA rfl rfl ?_;refine aN rfl ?_;refine T.seq ?_;refine aS ?_;refine aA rfl rfl ?_;refine TL.op1 (OpR.cast (OpR.pure rfl) (intE (lenM _ _))) rfl ?_;refine aA rfl rfl ?_;refine aN rfl ?_;obtain⟨t2,ht2,h0⟩:=bS h0;refine T.cutC (fun S'=>∃ y3:Value,S'=⟨[(7,(dP (blk p1))),(6,.val (.slice none 0 0)),(2,(dN a1))],[.var b0 [.fn (.func 170) [] [dP b2,dP b3]] 170,.var b1 [.sl 3 (List.map e_row_Row a2)] 163,.var b2 [.sl 2 (List.map e_order_By a3)] 104,.var b3 [dP b4] 28,.var b4 [.val v5] 264,.row v5 (lB a4) 1 5,.var (blk p1) [.val y3,.fn (.func 190) [] [dP b0,dP b1]] 355,.row y3 (List.map e_merge_run_int t2) 2 357],77⟩) (fun _ h=>h) ?_ ?_
 ·refine T.block ?_;obtain⟨n6,n11⟩:=loop_some ht2;refine T.loop (fun n S'=>∃ S'',Gst S' S''∧∃ y4:Value,∃ s5:Int × (List merge_run_int),S''=⟨[(17,(dN s5.1)),(16,(dN (a0.length:Int))),(15,.sl 1 (List.map e_sl76 a0)),(7,(dP (blk p1))),(6,.val (.slice none 0 0)),(2,(dN a1))],[.var b0 [.fn (.func 170) [] [dP b2,dP b3]] 170,.var b1 [.sl 3 (List.map e_row_Row a2)] 163,.var b2 [.sl 2 (List.map e_order_By a3)] 104,.var b3 [dP b4] 28,.var b4 [.val v5] 264,.row v5 (lB a4) 1 5,.var (blk p1) [.val y4,.fn (.func 190) [] [dP b0,dP b1]] 355,.row y4 (List.map e_merge_run_int s5.2) 2 357],77⟩∧iter (merge_first_int.l1 a0 a2 a3 a4) n s5=some t2) n6 ?_ ?_
  ·exact⟨_,Gst.trans (Gst.only [2,6,7,15,16,17] rfl) (Gst.nilRow (ow:=[.var b0 [.fn (.func 170) [] [dP b2,dP b3]] 170,.var b1 [.sl 3 (List.map e_row_Row a2)] 163,.var b2 [.sl 2 (List.map e_order_By a3)] 104,.var b3 [dP b4] 28,.var b4 [.val v5] 264,.row v5 (lB a4) 1 5,.var (blk p1) [.val (.slice none 0 0),.fn (.func 190) [] [dP b0,dP b1]] 355]) 2 357 rfl),(.slice none 0 0),(0,[]),rfl,n11⟩
  rintro n6 _ ⟨_,g,y4,s5,rfl,i10⟩;refine T.ghost g ?_;obtain⟨m7,q8,rfl,q9,i10⟩:=iter_succ i10;unfold merge_first_int.l1 at q9;refine aS ?_;refine aA rfl rfl ?_;refine aN rfl ?_;refine T.seq ?_;rcases ite_some q9 with ⟨c13,q9⟩|⟨c13,q9⟩;rotate_left
  ·refine T.condF rfl (eF c13) ?_;refine T.exit ?_;obtain rfl:=osi q9;obtain rfl:_=_:=i10;exact⟨_,Gst.only [2,6,7] rfl,y4,rfl⟩
  refine T.condT rfl (eT c13) ?_;refine aK rfl ?_;refine T.seq ?_;refine T.block ?_;refine aS ?_;refine aA rfl rfl ?_;obtain⟨x14,hx14,q9⟩:=bS q9;refine TL.op1 (OpR.indexM e_sl76 hx14 rfl rfl rfl rfl rfl) rfl ?_;iterate 3 refine aA rfl rfl ?_
  refine aN rfl ?_;refine aS ?_;refine aA rfl rfl ?_;refine TL.op1 (OpR.cast (OpR.pure rfl) (intE (lenM _ _))) rfl ?_;refine aA rfl rfl ?_;refine aN rfl ?_;obtain⟨t15,ht15,q9⟩:=bS q9;refine T.cutC (fun S'=>∃ y16:Value,S'=⟨[(17,(dN s5.1)),(16,(dN (a0.length:Int))),(15,.sl 1 (List.map e_sl76 a0)),(7,(dP (blk p1))),(6,.val (.slice none 0 0)),(2,(dN a1))],[.var b0 [.fn (.func 170) [] [dP b2,dP b3]] 170,.var b1 [.sl 3 (List.map e_row_Row a2)] 163,.var b2 [.sl 2 (List.map e_order_By a3)] 104,.var b3 [dP b4] 28,.var b4 [.val v5] 264,.row v5 (lB a4) 1 5,.var (blk p1) [.val y16,.fn (.func 190) [] [dP b0,dP b1]] 355,.row y16 (List.map e_merge_run_int t15) 2 357],77⟩) (fun _ h=>h) ?_ ?_;rotate_left
  ·rintro _ ⟨y16,rfl⟩;show T X _ _ _;refine T.region ?_;iterate 2 refine aA rfl rfl ?_
   refine TL.nil ?_;obtain rfl:=osi q9;exact⟨m7,Nat.lt_succ_self _,_,Gst.only [2,6,7,15,16,17] rfl,y16,(w64 (s5.1+1),t15),rfl,i10⟩
  rcases ite_some ht15 with ⟨c17,ht15⟩|⟨c17,ht15⟩;rotate_left
  ·refine T.condF rfl (eF c17) ?_;refine T.skip ?_;obtain rfl:=osi ht15;exact⟨_,Gst.only [2,6,7,15,16,17] rfl,y4,rfl⟩
  refine T.condT rfl (eT c17) ?_;refine T.region ?_;refine aA rfl rfl ?_;refine TL.op1 (OpR.mkIfc rfl rfl rfl) rfl ?_;iterate 2 refine aA rfl rfl ?_
  refine TL.op1 (OpR.build rfl rfl rfl rfl rfl) rfl ?_;refine TL.op1 (OpR.mkIfc rfl rfl rfl) rfl ?_;obtain⟨x18,hx18,ht15⟩:=bS ht15;refine TL.op (OpR.call [6,7,0,1,2,3,4,5] fn241 (container_heap_Push_2_c hx18) rfl rfl rfl (fun _=>rfl)) rfl (fun w19=>?_);refine TL.nil ?_;obtain rfl:=osi ht15;exact⟨_,Gst.only [2,6,7,15,16,17] rfl,(vn w19 0),rfl⟩
 rintro _ ⟨y3,rfl⟩;show T X _ _ _;refine aS ?_;refine aA rfl rfl ?_;refine aN rfl ?_;refine T.seq ?_;obtain⟨t20,ht20,h0⟩:=bS h0;refine T.cutC (fun S'=>∃ y21:Value,S'=⟨[(10,.val y21),(6,.val (.slice none 0 0))],[.var b0 [.fn (.func 170) [] [dP b2,dP b3]] 170,.var b1 [.sl 3 (List.map e_row_Row a2)] 163,.var b2 [.sl 2 (List.map e_order_By a3)] 104,.var b3 [dP b4] 28,.var b4 [.val v5] 264,.row v5 (lB a4) 1 5,.row y21 (List.map (eI .i64) t20) 1 3],77⟩) (fun _ h=>h) ?_ ?_;rotate_left
 ·rintro _ ⟨y21,rfl⟩;show T X _ _ _;refine aS ?_;iterate 2 refine aA rfl rfl ?_
  refine aN rfl ?_;refine T.ret ?_;obtain rfl:=osi h0;exact rO [0,1,2,3,4,5,6] [6] rfl (.tuple #[y21]) (cT rfl ResL.nil) rfl rfl rfl rfl
 refine T.block ?_;obtain⟨n25,n30⟩:=loop_some ht20;refine T.loop (fun n S'=>∃ S'',Gst S' S''∧∃ y22:Value,∃ y23:Value,∃ s24:(List Int) × (List merge_run_int),S''=⟨[(10,.val y22),(7,(dP (blk p1))),(6,.val (.slice none 0 0)),(2,(dN a1))],[.var b0 [.fn (.func 170) [] [dP b2,dP b3]] 170,.var b1 [.sl 3 (List.map e_row_Row a2)] 163,.var b2 [.sl 2 (List.map e_order_By a3)] 104,.var b3 [dP b4] 28,.var b4 [.val v5] 264,.row v5 (lB a4) 1 5,.var (blk p1) [.val y23,.fn (.func 190) [] [dP b0,dP b1]] 355,.row y22 (List.map (eI .i64) s24.1) 1 3,.row y23 (List.map e_merge_run_int s24.2) 2 357],77⟩∧iter (merge_first_int.l2 a1 a2 a3 a4) n s24=some t20) n25 ?_ ?_
 ·exact⟨_,Gst.trans (Gst.only [2,6,7,10] rfl) (Gst.trans (Gst.nilRow (ow:=[.var b0 [.fn (.func 170) [] [dP b2,dP b3]] 170,.var b1 [.sl 3 (List.map e_row_Row a2)] 163,.var b2 [.sl 2 (List.map e_order_By a3)] 104,.var b3 [dP b4] 28,.var b4 [.val v5] 264,.row v5 (lB a4) 1 5,.var (blk p1) [.val y3,.fn (.func 190) [] [dP b0,dP b1]] 355,.row y3 (List.map e_merge_run_int t2) 2 357]) 1 3 rfl) (Gst.pick [0,1,2,3,4,5,6,8,7] rfl rfl)),(.slice none 0 0),y3,([],t2),rfl,n30⟩
 rintro n25 _ ⟨_,g,y22,y23,s24,rfl,i29⟩;refine T.ghost g ?_;obtain⟨m26,q27,rfl,q28,i29⟩:=iter_succ i29;unfold merge_first_int.l2 at q28;refine T.seq ?_;refine T.seq ?_;obtain⟨t32,ht32,q28⟩:=bS q28;refine T.cutC (fun S'=>S'=⟨[(41,(dT t32)),(10,.val y22),(7,(dP (blk p1))),(6,.val (.slice none 0 0)),(2,(dN a1))],[.var b0 [.fn (.func 170) [] [dP b2,dP b3]] 170,.var b1 [.sl 3 (List.map e_row_Row a2)] 163,.var b2 [.sl 2 (List.map e_order_By a3)] 104,.var b3 [dP b4] 28,.var b4 [.val v5] 264,.row v5 (lB a4) 1 5,.var (blk p1) [.val y23,.fn (.func 190) [] [dP b0,dP b1]] 355,.row y22 (List.map (eI .i64) s24.1) 1 3,.row y23 (List.map e_merge_run_int s24.2) 2 357],77⟩) (fun _ h=>h) ?_ ?_
 ·refine T.region ?_;refine aA rfl rfl ?_;obtain⟨x33,hx33,ht32⟩:=bS ht32;refine TL.op1 (OpR.call [6,8,0,1,2,3,4,5] fn268 (merge_runs_int_Len_c hx33) rfl rfl rfl (fun _=>rfl)) rfl ?_;iterate 2 refine aA rfl rfl ?_
  rcases ite_some ht32 with ⟨c34,ht32⟩|⟨c34,ht32⟩;rotate_left
  ·refine TL.off rfl rfl rfl rfl (eF c34) rfl rfl ?_;refine TL.off rfl rfl rfl rfl (eF c34) rfl rfl ?_;refine TL.off rfl rfl rfl rfl (eF c34) rfl rfl ?_;refine TL.off rfl rfl rfl rfl (eF c34) rfl rfl ?_;refine TL.op1 (OpR.pickF rfl (eF c34) rfl) rfl ?_;refine TL.nil ?_;obtain rfl:=osi ht32;exact⟨_,Gst.only [2,6,7,10,41] rfl,rfl⟩
  refine TL.on rfl rfl rfl rfl (eT c34) ?_;refine aA rfl rfl ?_;refine TL.on rfl rfl rfl rfl (eT c34) ?_;refine TL.op1 (OpR.rowLenM (eI .i64) 7 rfl rfl rfl rfl) rfl ?_;refine TL.on rfl rfl rfl rfl (eT c34) ?_;refine aA rfl rfl ?_;refine TL.on rfl rfl rfl rfl (eT c34) ?_;refine aA rfl rfl ?_;refine TL.op1 (OpR.pickT rfl (eT c34) rfl) rfl ?_;refine TL.nil ?_;obtain rfl:=osi ht32;exact⟨_,Gst.only [2,6,7,10,41] rfl,rfl⟩
 rintro _ rfl;show T X _ _ _;rcases ite_some q28 with ⟨c35,q28⟩|⟨c35,q28⟩;rotate_left
 ·refine T.condF rfl (eq_false_of_ne_true c35) ?_;refine T.exit ?_;obtain rfl:=osi q28;obtain rfl:_=_:=i29;exact⟨_,gP [6,10] [0,1,2,3,4,5,7] rfl rfl rfl,y22,rfl⟩
 refine T.condT rfl (c35) ?_;refine aK rfl ?_;refine T.block ?_;refine aS ?_;iterate 3 refine aA rfl rfl ?_
 refine TL.op1 (OpR.loadPtr 6 rfl rfl rfl rfl) rfl ?_;obtain⟨x36,hx36,q28⟩:=bS q28;refine TL.op1 (OpR.rowIndexM e_merge_run_int 8 hx36 rfl rfl rfl rfl rfl rfl rfl) rfl ?_;refine aA rfl rfl ?_;refine aN rfl ?_;refine aS ?_;iterate 4 refine aA rfl rfl ?_
 refine TL.op1 (OpR.rowLoad0M (j:=0) e_merge_run_int 8 hx36 rfl rfl rfl rfl) rfl ?_;obtain⟨x37,hx37,q28⟩:=bS q28;refine TL.op1 (OpR.indexM (eI .i64) hx37 rfl rfl rfl rfl rfl) rfl ?_;refine aA rfl rfl ?_;refine TL.op1 (OpR.lit rfl rfl rfl rfl rfl rfl rfl) rfl ?_;obtain⟨x38,hx38,q28⟩:=bS q28;refine TL.op (OpR.appendM (m:=[x37]) (eI .i64) 7 hx38 rfl rfl rfl rfl rfl rfl rfl rfl rfl (fun _=>rfl)) rfl (fun v39=>?_);refine aA rfl rfl ?_;refine aN rfl ?_;refine T.seq ?_;refine aS ?_;iterate 4 refine aA rfl rfl ?_
 refine TL.op1 (OpR.rowLoad0M (j:=0) e_merge_run_int 8 hx36 rfl rfl rfl rfl) rfl ?_;obtain⟨x40,hx40,q28⟩:=bS q28;refine TL.op1 (OpR.sliceM (sz:=1) (eI .i64) hx40 rfl rfl rfl rfl (BdM.some rfl) BdM.none rfl) rfl ?_;iterate 2 refine aA rfl rfl ?_
 refine TL.op0 (OpR.rowStore0M (j:=0) e_merge_run_int (⟨x40,x36.fWhich⟩:merge_run_int) 8 hx36 rfl rfl rfl rfl rfl rfl rfl rfl rfl) ?_;refine aN rfl ?_;refine aS ?_;iterate 3 refine aA rfl rfl ?_
 obtain⟨x41,hx41,q28⟩:=bS q28;refine TL.op1 (OpR.rowLoad0M (j:=0) e_merge_run_int 8 hx41 rfl rfl rfl rfl) rfl ?_;refine TL.op1 (OpR.cast (OpR.pure rfl) (intE (lenM _ _))) rfl ?_;refine aA rfl rfl ?_;refine aN rfl ?_;rcases ite_some q28 with ⟨c42,q28⟩|⟨c42,q28⟩;rotate_left
 ·refine T.condF rfl (beq_eq_false_iff_ne.2 c42) ?_;refine aK rfl ?_;refine T.region ?_;refine aA rfl rfl ?_;refine TL.op1 (OpR.mkIfc rfl rfl rfl) rfl ?_;obtain⟨x45,hx45,q28⟩:=bS q28;refine TL.op1 (OpR.call [6,8,0,1,2,3,4,5] fn244 (container_heap_Fix_c hx45) rfl rfl rfl (fun _=>rfl)) rfl ?_;refine TL.nil ?_;obtain rfl:=osi q28;exact⟨m26,Nat.lt_succ_self _,_,Gst.only [2,6,7,10] rfl,v39,y23,(x38,x45),rfl,i29⟩
 refine T.condT rfl (beq_iff_eq.2 c42) ?_;refine aS ?_;refine aA rfl rfl ?_;refine TL.op1 (OpR.mkIfc rfl rfl rfl) rfl ?_;obtain⟨x43,hx43,q28⟩:=bS q28;refine TL.op (OpR.call [6,8,0,1,2,3,4,5] fn243 (container_heap_Pop_c hx43) rfl rfl rfl (fun _=>rfl)) rfl (fun w44=>?_);refine aN rfl ?_;refine T.exit ?_;obtain rfl:=osi q28;exact⟨m26,Nat.lt_succ_self _,_,Gst.only [2,6,7,10] rfl,v39,(vn w44 0),(x38,x43.2),rfl,i29⟩
noncomputable def merge_Merge_int (a0:List (List Int)) (a1:List row_Row) (a2:List order_By) (a3:List UInt8):Option (List Int):=
 bnd (merge_count_int a0) fun x1=>
 bnd (merge_first_int a0 x1 a1 a2 a3) fun x2=>
 some x2
theorem merge_Merge_int_c {a0:List (List Int)} {a1:List row_Row} {a2:List order_By} {a3:List UInt8} {b0:Nat} {b1:Nat} {b2:Nat} {b3:Nat} {b4:Nat} {v5:Value} {res:(List Int)} (h0:merge_Merge_int a0 a1 a2 a3=some res):CallF X 223 [.fn (.func 190) [] [dP b0,dP b1],.sl 1 (List.map e_sl76 a0)] [.var b0 [.fn (.func 170) [] [dP b2,dP b3]] 170,.var b1 [.sl 3 (List.map e_row_Row a1)] 163,.var b2 [.sl 2 (List.map e_order_By a2)] 104,.var b3 [dP b4] 28,.var b4 [.val v5] 264,.row v5 (lB a3) 1 5] (fun x=>.val (vn x 0)) (fun x=>[.var b0 [.fn (.func 170) [] [dP b2,dP b3]] 170,.var b1 [.sl 3 (List.map e_row_Row a1)] 163,.var b2 [.sl 2 (List.map e_order_By a2)] 104,.var b3 [dP b4] 28,.var b4 [.val v5] 264,.row v5 (lB a3) 1 5,.row (vn x 0) (List.map (eI .i64) res) 1 3]):=by
 unfold merge_Merge_int at h0;refine CallF.mkG (X:=X) rfl Tryz.func223 rfl rfl Tryz.ntmps223 rfl rfl ?_;refine aS ?_;refine aA rfl rfl ?_;refine aN rfl ?_;refine aS ?_;iterate 3 refine aA rfl rfl ?_
 obtain⟨x1,hx1,h0⟩:=bS h0;refine TL.op1 (OpR.call0 fn250 (merge_count_int_c hx1) rfl) rfl ?_;obtain⟨x2,hx2,h0⟩:=bS h0;refine TL.op (OpR.call [0,1,2,3,4,5] fn249 (merge_first_int_c hx2) rfl rfl rfl (fun _=>rfl)) rfl (fun w3=>?_);refine aA rfl rfl ?_;refine aN rfl ?_;refine T.ret ?_;obtain rfl:=osi h0;exact rO [0,1,2,3,4,5,6] [4] rfl (.tuple #[(vn w3 0)]) (cT rfl ResL.nil) rfl rfl rfl rfl
noncomputable def merge_Sort_int (a0:List Int) (a1:List row_Row) (a2:List order_By) (a3:List UInt8):Option (List Int):=
 bnd (merge_Runs_int a0 a1 a2 a3) fun x1=>
 bnd (merge_Merge_int x1 a1 a2 a3) fun x2=>
 some x2
theorem merge_Sort_int_c {a0:List Int} {a1:List row_Row} {a2:List order_By} {a3:List UInt8} {v0:Value} {b1:Nat} {b2:Nat} {b3:Nat} {b4:Nat} {b5:Nat} {v6:Value} {res:(List Int)} (h0:merge_Sort_int a0 a1 a2 a3=some res):CallF X 189 [.val v0,.fn (.func 190) [] [dP b1,dP b2]] [.row v0 (List.map (eI .i64) a0) 1 3,.var b1 [.fn (.func 170) [] [dP b3,dP b4]] 170,.var b2 [.sl 3 (List.map e_row_Row a1)] 163,.var b3 [.sl 2 (List.map e_order_By a2)] 104,.var b4 [dP b5] 28,.var b5 [.val v6] 264,.row v6 (lB a3) 1 5] (fun x=>.val (vn x 0)) (fun x=>[.row v0 (List.map (eI .i64) a0) 1 3,.var b1 [.fn (.func 170) [] [dP b3,dP b4]] 170,.var b2 [.sl 3 (List.map e_row_Row a1)] 163,.var b3 [.sl 2 (List.map e_order_By a2)] 104,.var b4 [dP b5] 28,.var b5 [.val v6] 264,.row v6 (lB a3) 1 5,.row (vn x 0) (List.map (eI .i64) res) 1 3]):=by
 unfold merge_Sort_int at h0;refine CallF.mkG (X:=X) rfl Tryz.func189 rfl rfl Tryz.ntmps189 rfl rfl ?_;refine aS ?_;refine aA rfl rfl ?_;refine aN rfl ?_;refine aS ?_;iterate 3 refine aA rfl rfl ?_
 obtain⟨x1,hx1,h0⟩:=bS h0;refine TL.op1 (OpR.call [0,1,2,3,4,5,6] fn224 (merge_Runs_int_c hx1) rfl rfl rfl (fun _=>rfl)) rfl ?_;obtain⟨x2,hx2,h0⟩:=bS h0;refine TL.op (OpR.call [1,2,3,4,5,6] fn223 (merge_Merge_int_c hx2) rfl rfl rfl (fun _=>rfl)) rfl (fun w3=>?_);refine aA rfl rfl ?_;refine aN rfl ?_;refine T.ret ?_;obtain rfl:=osi h0;exact rO [0,1,2,3,4,5,6,7] [4] rfl (.tuple #[(vn w3 0)]) (cT rfl ResL.nil) rfl rfl rfl rfl
noncomputable def merge_Perm_row_Row.l1 (x3:List Int) (s6:Int × (List Int)):Option (Lp (Int × (List Int)) (List Int)):=
 if s6.1<(x3.length:Int) then
 bnd (idx s6.2 s6.1) fun x15=>
 some (Lp.next (w64 (s6.1+1),(s6.2.set s6.1.toNat s6.1)))
else
 some (Lp.done s6.2)
noncomputable def merge_Perm_row_Row (a0:List row_Row) (a1:List order_By) (a2:List UInt8):Option (List Int):=
 bnd (mkz 8 (a0.length:Int) (0:Int)) fun x3=>
 bnd (loop (merge_Perm_row_Row.l1 x3) (0,x3):Option (List Int)) fun t5=>
 bnd (merge_Sort_int t5 a0 a1 a2) fun x16=>
 some x16
theorem merge_Perm_row_Row_c {a0:List row_Row} {a1:List order_By} {a2:List UInt8} {b0:Nat} {b1:Nat} {b2:Nat} {v3:Value} {res:(List Int)} (h0:merge_Perm_row_Row a0 a1 a2=some res):CallF X 126 [.sl 3 (List.map e_row_Row a0),.fn (.func 170) [] [dP b0,dP b1]] [.var b0 [.sl 2 (List.map e_order_By a1)] 104,.var b1 [dP b2] 28,.var b2 [.val v3] 264,.row v3 (lB a2) 1 5] (fun x=>.val (vn x 0)) (fun x=>[.var b0 [.sl 2 (List.map e_order_By a1)] 104,.var b1 [dP b2] 28,.var b2 [.val v3] 264,.row v3 (lB a2) 1 5,.row (vn x 0) (List.map (eI .i64) res) 1 3]):=by
 unfold merge_Perm_row_Row at h0;refine CallF.mkG (X:=X) rfl Tryz.func126 rfl rfl Tryz.ntmps126 rfl rfl ?_;refine aS ?_;refine TL.op (OpR.boxVar rfl rfl (fun _=>rfl)) rfl (fun p1=>?_);refine TL.op (OpR.boxVar rfl rfl (fun _=>rfl)) rfl (fun p2=>?_);refine aA rfl rfl ?_;refine aN rfl ?_;refine aS ?_;refine TL.op1 (OpR.loadPtr 4 rfl rfl rfl rfl) rfl ?_;refine TL.op1 (OpR.cast (OpR.pure rfl) (intE (lenM _ _))) rfl ?_;obtain⟨x3,hx3,h0⟩:=bS h0;refine TL.op (OpR.makeM (eI .i64) hx3 rfl rfl rfl rfl rfl rfl rfl rfl rfl rfl rfl (fun _=>rfl)) rfl (fun v4=>?_);refine aA rfl rfl ?_;refine aN rfl ?_;refine T.seq ?_;refine aS ?_;refine aA rfl rfl ?_;refine TL.op1 (OpR.rowLenM (eI .i64) 6 rfl rfl rfl rfl) rfl ?_;refine aA rfl rfl ?_;refine aN rfl ?_;obtain⟨t5,ht5,h0⟩:=bS h0;refine T.cutC (fun S'=>S'=⟨[(5,.val v4),(4,.val (.slice none 0 0)),(3,(dP (blk p2))),(2,(dP (blk p1)))],[.var b0 [.sl 2 (List.map e_order_By a1)] 104,.var b1 [dP b2] 28,.var b2 [.val v3] 264,.row v3 (lB a2) 1 5,.var (blk p1) [.sl 3 (List.map e_row_Row a0)] 163,.var (blk p2) [.fn (.func 170) [] [dP b0,dP b1]] 170,.row v4 (List.map (eI .i64) t5) 1 3],23⟩) (fun _ h=>h) ?_ ?_;rotate_left
 ·rintro _ rfl;show T X _ _ _;refine aS ?_;iterate 2 refine aA rfl rfl ?_
  obtain⟨x16,hx16,h0⟩:=bS h0;refine TL.op (OpR.call [6,5,4,0,1,2,3] fn189 (merge_Sort_int_c hx16) rfl rfl rfl (fun _=>rfl)) rfl (fun w17=>?_);refine aA rfl rfl ?_;refine aN rfl ?_;refine T.ret ?_;obtain rfl:=osi h0;exact rP [0,1,2,3,4] [4] [0,1,2,3,7] rfl rfl rfl (.tuple #[(vn w17 0)]) (cT rfl ResL.nil) rfl rfl rfl rfl
 refine T.block ?_;obtain⟨n7,n12⟩:=loop_some ht5;refine T.loop (fun n S'=>∃ S'',Gst S' S''∧∃ s6:Int × (List Int),S''=⟨[(12,(dN s6.1)),(11,(dN (x3.length:Int))),(5,.val v4),(4,.val (.slice none 0 0)),(3,(dP (blk p2))),(2,(dP (blk p1)))],[.var b0 [.sl 2 (List.map e_order_By a1)] 104,.var b1 [dP b2] 28,.var b2 [.val v3] 264,.row v3 (lB a2) 1 5,.var (blk p1) [.sl 3 (List.map e_row_Row a0)] 163,.var (blk p2) [.fn (.func 170) [] [dP b0,dP b1]] 170,.row v4 (List.map (eI .i64) s6.2) 1 3],23⟩∧iter (merge_Perm_row_Row.l1 x3) n s6=some t5) n7 ?_ ?_
 ·exact⟨_,Gst.only [2,3,4,5,11,12] rfl,(0,x3),rfl,n12⟩
 rintro n7 _ ⟨_,g,s6,rfl,i11⟩;refine T.ghost g ?_;obtain⟨m8,q9,rfl,q10,i11⟩:=iter_succ i11;unfold merge_Perm_row_Row.l1 at q10;refine aS ?_;refine aA rfl rfl ?_;refine aN rfl ?_;refine T.seq ?_;rcases ite_some q10 with ⟨c14,q10⟩|⟨c14,q10⟩;rotate_left
 ·refine T.condF rfl (eF c14) ?_;refine T.exit ?_;obtain rfl:=osi q10;obtain rfl:_=_:=i11;exact⟨_,Gst.only [2,3,4,5] rfl,rfl⟩
 refine T.condT rfl (eT c14) ?_;refine aK rfl ?_;refine T.seq ?_;refine T.block ?_;refine aS ?_;iterate 2 refine aA rfl rfl ?_
 refine aN rfl ?_;refine T.region ?_;iterate 3 refine aA rfl rfl ?_
 obtain⟨x15,hx15,q10⟩:=bS q10;refine TL.op1 (OpR.rowIndexM (eI .i64) 6 hx15 rfl rfl rfl rfl rfl rfl rfl) rfl ?_;refine TL.op0 (OpR.rowStore0M (j:=s6.1) (eI .i64) s6.1 6 hx15 rfl rfl rfl rfl rfl rfl rfl rfl rfl) ?_;refine aN rfl ?_;refine T.region ?_;iterate 2 refine aA rfl rfl ?_
 refine TL.nil ?_;obtain rfl:=osi q10;exact⟨m8,Nat.lt_succ_self _,_,Gst.only [2,3,4,5,11,12] rfl,(w64 (s6.1+1),(s6.2.set s6.1.toNat s6.1)),rfl,i11⟩
noncomputable def order_Perm.l1 (x3:(List row_Row) × (List Int)) (x6:(List Int)) (s9:Int × (List Int)):Option (Lp (Int × (List Int)) (List Int)):=
 if s9.1<(x6.length:Int) then
 bnd (idx s9.2 s9.1) fun x18=>
 bnd (idx x3.2 x18) fun x19=>
 some (Lp.next (w64 (s9.1+1),(s9.2.set s9.1.toNat x19)))
else
 some (Lp.done s9.2)
noncomputable def order_Perm (a0:grid_Grid) (a1:List order_By) (a2:List UInt8):Option (List Int):=
 bnd (order_Right a1) fun x1=>
 if x1=true then
 bnd (order_visible a0) fun x3=>
 bnd (order_standing a1 a2) fun x4=>
 bnd (merge_Perm_row_Row x3.1 x4 a2) fun x6=>
 bnd (loop (order_Perm.l1 x3 x6) (0,x6):Option (List Int)) fun t8=>
 some t8
else
 some []
theorem order_Perm_c {a0:grid_Grid} {a1:List order_By} {a2:List UInt8} {b0:Nat} {v1:Value} {res:(List Int)} (h0:order_Perm a0 a1 a2=some res):CallF X 59 [.agg [(eOP a0.fRows.fRoot),dT a0.fTail,dN a0.fEnd],dP b0,.sl 2 (List.map e_order_By a1)] [.var b0 [.val v1] 264,.row v1 (lB a2) 1 5] (fun x=>.sl 1 (List.map (eI .i64) res)) (fun x=>[.var b0 [.val v1] 264,.row v1 (lB a2) 1 5]):=by
 unfold order_Perm at h0;refine CallF.mkG (X:=X) rfl Tryz.func59 rfl rfl Tryz.ntmps59 rfl rfl ?_;refine aS ?_;refine TL.op1 (OpR.boxImm rfl rfl) rfl ?_;refine aA rfl rfl ?_;refine aN rfl ?_;refine T.seq ?_;refine aS ?_;refine aA rfl rfl ?_;obtain⟨x1,hx1,h0⟩:=bS h0;refine TL.op1 (OpR.call0 fn56 (order_Right_c hx1) rfl) rfl ?_;refine aA rfl rfl ?_;refine aN rfl ?_;rcases ite_some h0 with ⟨c2,h0⟩|⟨c2,h0⟩;rotate_left
 ·refine T.condT rfl (not_f (eq_false_of_ne_true c2)) ?_;refine aS ?_;refine aA rfl rfl ?_;refine aN rfl ?_;refine T.ret ?_;obtain rfl:=osi h0;exact PostG.retP (ks:=[0,1]) (Gst.trans (Gst.only [6] rfl) (Gst.denil (ReS.cons (Re.base .nil) ReS.nil) (ReO.var (ReL.cons Re.refl ReL.nil) (ReO.same ReO.nil)))) undef (cT rfl ResL.nil) rfl rfl rfl rfl
 refine T.condF rfl (not_t (c2)) ?_;refine aK rfl ?_;refine aS ?_;refine aA rfl rfl ?_;obtain⟨x3,hx3,h0⟩:=bS h0;refine TL.op1 (OpR.call0 fn104 (order_visible_c hx3) rfl) rfl ?_;iterate 5 refine aA rfl rfl ?_
 refine aN rfl ?_;refine aS ?_;iterate 3 refine aA rfl rfl ?_
 obtain⟨x4,hx4,h0⟩:=bS h0;refine TL.op (OpR.call [0,1] fn105 (order_standing_c hx4) rfl rfl rfl (fun _=>rfl)) rfl (fun w5=>?_);obtain⟨x6,hx6,h0⟩:=bS h0;refine TL.op (OpR.call [2,3,0,1] fn126 (merge_Perm_row_Row_c hx6) rfl rfl rfl (fun _=>rfl)) rfl (fun w7=>?_);refine aA rfl rfl ?_;refine aN rfl ?_;refine T.seq ?_;refine aS ?_;refine aA rfl rfl ?_;refine TL.op1 (OpR.rowLenM (eI .i64) 4 rfl rfl rfl rfl) rfl ?_;refine aA rfl rfl ?_;refine aN rfl ?_;obtain⟨t8,ht8,h0⟩:=bS h0;refine T.cutC (fun S'=>S'=⟨[(9,.val (vn w7 0)),(6,.val (.slice none 0 0))],[.var b0 [.val v1] 264,.row v1 (lB a2) 1 5,.row (vn w7 0) (List.map (eI .i64) t8) 1 3],41⟩) (fun _ h=>h) ?_ ?_;rotate_left
 ·rintro _ rfl;show T X _ _ _;refine aS ?_;iterate 2 refine aA rfl rfl ?_
  refine aN rfl ?_;refine T.ret ?_;obtain rfl:=osi h0;exact PostG.retP (ks:=[0,1]) (Gst.trans (Gst.only [6] rfl) (Gst.trans (Gst.freezeRow 2 rfl rfl (ReS.cons (Re.base .all) ReS.nil) (ReO.same (ReO.same (ReO.same ReO.nil)))) (Gst.pick [0,1] rfl rfl))) undef (cT rfl ResL.nil) rfl rfl rfl rfl
 refine T.block ?_;obtain⟨n10,n15⟩:=loop_some ht8;refine T.loop (fun n S'=>∃ S'',Gst S' S''∧∃ s9:Int × (List Int),S''=⟨[(27,(dN s9.1)),(26,(dN (x6.length:Int))),(25,.val (vn w7 0)),(9,.val (vn w7 0)),(8,.sl 1 (List.map (eI .i64) x3.2)),(6,.val (.slice none 0 0))],[.var b0 [.val v1] 264,.row v1 (lB a2) 1 5,.row (vn w7 0) (List.map (eI .i64) s9.2) 1 3],41⟩∧iter (order_Perm.l1 x3 x6) n s9=some t8) n10 ?_ ?_
 ·exact⟨_,gP [6,8,9,25,26,27] [0,1,4] rfl rfl rfl,(0,x6),rfl,n15⟩
 rintro n10 _ ⟨_,g,s9,rfl,i14⟩;refine T.ghost g ?_;obtain⟨m11,q12,rfl,q13,i14⟩:=iter_succ i14;unfold order_Perm.l1 at q13;refine aS ?_;refine aA rfl rfl ?_;refine aN rfl ?_;refine T.seq ?_;rcases ite_some q13 with ⟨c17,q13⟩|⟨c17,q13⟩;rotate_left
 ·refine T.condF rfl (eF c17) ?_;refine T.exit ?_;obtain rfl:=osi q13;obtain rfl:_=_:=i14;exact⟨_,Gst.only [6,9] rfl,rfl⟩
 refine T.condT rfl (eT c17) ?_;refine aK rfl ?_;refine T.seq ?_;refine T.block ?_;refine aS ?_;refine aA rfl rfl ?_;obtain⟨x18,hx18,q13⟩:=bS q13;refine TL.op1 (OpR.rowIndexM (eI .i64) 2 hx18 rfl rfl rfl rfl rfl rfl rfl) rfl ?_;refine TL.op1 (OpR.rowLoad0M (j:=s9.1) (eI .i64) 2 hx18 rfl rfl rfl rfl) rfl ?_;iterate 2 refine aA rfl rfl ?_
 refine aN rfl ?_;refine T.region ?_;iterate 4 refine aA rfl rfl ?_
 obtain⟨x19,hx19,q13⟩:=bS q13;refine TL.op1 (OpR.indexM (eI .i64) hx19 rfl rfl rfl rfl rfl) rfl ?_;refine aA rfl rfl ?_;refine TL.op1 (OpR.rowIndexM (eI .i64) 2 hx18 rfl rfl rfl rfl rfl rfl rfl) rfl ?_;refine TL.op0 (OpR.rowStore0M (j:=s9.1) (eI .i64) x19 2 hx18 rfl rfl rfl rfl rfl rfl rfl rfl rfl) ?_;refine aN rfl ?_;refine T.region ?_;iterate 2 refine aA rfl rfl ?_
 refine TL.nil ?_;obtain rfl:=osi q13;exact⟨m11,Nat.lt_succ_self _,_,Gst.only [6,8,9,25,26,27] rfl,(w64 (s9.1+1),(s9.2.set s9.1.toNat x19)),rfl,i14⟩
noncomputable def order_marks.l1 (a0:Int) (a1:List Int) (s5:Int × (List Bool)):Option (Lp (Int × (List Bool)) (Ex (List Bool) ((List Bool) × Bool))):=
 if s5.1<(a1.length:Int) then
 bnd (idx a1 s5.1) fun x14=>
 bnd (if x14<0 then
 some true
else
 if x14≥a0 then
 some true
else
 bnd (idx s5.2 x14) fun x18=>
 some x18:Option Bool) fun t15=>
 if t15=true then
 some (Lp.done (Ex.ret ([],false)))
else
 bnd (idx s5.2 x14) fun x20=>
 some (Lp.next (w64 (s5.1+1),(s5.2.set x14.toNat true)))
else
 some (Lp.done (Ex.brk s5.2))
noncomputable def order_marks (a0:Int) (a1:List Int):Option ((List Bool) × Bool):=
 bnd (mkz 1 a0 (false:Bool)) fun x1=>
 bnd (loop (order_marks.l1 a0 a1) (0,x1):Option (Ex (List Bool) ((List Bool) × Bool))) fun t3=>match t3 with
| .brk u4=>
 some (u4,true)
| .ret u4=>some u4
theorem order_marks_c {a0:Int} {a1:List Int} {res:(List Bool) × Bool} (h0:order_marks a0 a1=some res):CallF X 98 [dN a0,.sl 1 (List.map (eI .i64) a1)] [] (fun x=>.tup [.sl 1 (List.map eB res.1),dT res.2]) (fun x=>[]):=by
 unfold order_marks at h0;refine CallF.mkG (X:=X) rfl Tryz.func98 rfl rfl Tryz.ntmps98 rfl rfl ?_;refine aS ?_;iterate 2 refine aA rfl rfl ?_
 refine aN rfl ?_;refine aS ?_;refine aA rfl rfl ?_;obtain⟨x1,hx1,h0⟩:=bS h0;refine TL.op (OpR.makeM eB hx1 rfl rfl rfl rfl rfl rfl rfl rfl rfl rfl rfl (fun _=>rfl)) rfl (fun v2=>?_);refine aA rfl rfl ?_;refine aN rfl ?_;refine T.seq ?_;refine aS ?_;refine aA rfl rfl ?_;refine TL.op1 (OpR.cast (OpR.pure rfl) (intE (lenM _ _))) rfl ?_;refine aA rfl rfl ?_;refine aN rfl ?_;obtain⟨t3,ht3,h0⟩:=bS h0;refine T.cutC (fun S'=>∃ u4,t3=Ex.brk u4∧S'=⟨[(6,.val v2),(5,(dT false)),(4,.val (.slice none 0 0))],[.row v2 (List.map eB u4) 1 4],35⟩) (fun _ h=>h) ?_ ?_;rotate_left
 ·rintro _ ⟨u4,rfl,rfl⟩;show T X _ _ _;refine aS ?_;iterate 3 refine aA rfl rfl ?_
  refine aN rfl ?_;refine T.ret ?_;obtain rfl:=osi h0;exact PostG.retP (ks:=[]) (Gst.trans (Gst.only [4,5] rfl) (Gst.trans (Gst.freezeRow 0 rfl rfl (ReS.cons Re.refl (ReS.cons (Re.base .all) ReS.nil)) (ReO.same ReO.nil)) (Gst.pick [] rfl rfl))) undef (cT rfl (cT rfl ResL.nil)) rfl rfl rfl rfl
 refine T.block ?_;obtain⟨n6,n11⟩:=loop_some ht3;refine T.loop (fun n S'=>∃ S'',Gst S' S''∧∃ s5:Int × (List Bool),S''=⟨[(13,(dN s5.1)),(12,(dN (a1.length:Int))),(11,.sl 1 (List.map (eI .i64) a1)),(6,.val v2),(5,(dT false)),(4,.val (.slice none 0 0)),(0,(dN a0))],[.row v2 (List.map eB s5.2) 1 4],35⟩∧iter (order_marks.l1 a0 a1) n s5=some t3) n6 ?_ ?_
 ·exact⟨_,Gst.only [0,4,5,6,11,12,13] rfl,(0,x1),rfl,n11⟩
 rintro n6 _ ⟨_,g,s5,rfl,i10⟩;refine T.ghost g ?_;obtain⟨m7,q8,rfl,q9,i10⟩:=iter_succ i10;unfold order_marks.l1 at q9;refine aS ?_;refine aA rfl rfl ?_;refine aN rfl ?_;refine T.seq ?_;rcases ite_some q9 with ⟨c13,q9⟩|⟨c13,q9⟩;rotate_left
 ·refine T.condF rfl (eF c13) ?_;refine T.exit ?_;obtain rfl:=osi q9;obtain rfl:_=_:=i10;exact⟨_,Gst.only [4,5,6] rfl,_,rfl,rfl⟩
 refine T.condT rfl (eT c13) ?_;refine aK rfl ?_;refine T.seq ?_;refine T.block ?_;refine aS ?_;obtain⟨x14,hx14,q9⟩:=bS q9;refine TL.op1 (OpR.indexM (eI .i64) hx14 rfl rfl rfl rfl rfl) rfl ?_;iterate 2 refine aA rfl rfl ?_
 refine aN rfl ?_;refine T.seq ?_;refine T.seq ?_;obtain⟨t15,ht15,q9⟩:=bS q9;refine T.cutC (fun S'=>S'=⟨[(29,(dT t15)),(13,(dN s5.1)),(12,(dN (a1.length:Int))),(11,.sl 1 (List.map (eI .i64) a1)),(8,(dN x14)),(6,.val v2),(5,(dT false)),(4,.val (.slice none 0 0)),(0,(dN a0))],[.row v2 (List.map eB s5.2) 1 4],35⟩) (fun _ h=>h) ?_ ?_;rotate_left
 ·rintro _ rfl;show T X _ _ _;rcases ite_some q9 with ⟨c19,q9⟩|⟨c19,q9⟩
  ·refine T.condT rfl (c19) ?_;refine aS ?_;iterate 2 refine aA rfl rfl ?_
   refine aN rfl ?_;refine T.ret ?_;obtain rfl:=osi q9;obtain rfl:_=_:=i10;obtain rfl:=osi h0;exact PostG.retP (ks:=[]) (Gst.trans (Gst.only [4,5] rfl) (Gst.trans (Gst.denil (ReS.cons Re.refl (ReS.cons (Re.base .nil) ReS.nil)) (ReO.same ReO.nil)) (Gst.pick [] rfl rfl))) undef (cT rfl (cT rfl ResL.nil)) rfl rfl rfl rfl
  refine T.condF rfl (eq_false_of_ne_true c19) ?_;refine aK rfl ?_;refine T.region ?_;iterate 2 refine aA rfl rfl ?_
  obtain⟨x20,hx20,q9⟩:=bS q9;refine TL.op1 (OpR.rowIndexM eB 0 hx20 rfl rfl rfl rfl rfl rfl rfl) rfl ?_;refine TL.op0 (OpR.rowStore0M (j:=x14) eB true 0 hx20 rfl rfl rfl rfl rfl rfl rfl rfl rfl) ?_;refine aN rfl ?_;refine T.region ?_;iterate 2 refine aA rfl rfl ?_
  refine TL.nil ?_;obtain rfl:=osi q9;exact⟨m7,Nat.lt_succ_self _,_,Gst.only [0,4,5,6,11,12,13] rfl,(w64 (s5.1+1),(s5.2.set x14.toNat true)),rfl,i10⟩
 refine T.region ?_;iterate 3 refine aA rfl rfl ?_
 rcases ite_some ht15 with ⟨c16,ht15⟩|⟨c16,ht15⟩
 ·refine TL.off rfl rfl rfl rfl (eT c16) rfl rfl ?_;refine TL.off rfl rfl rfl rfl (eT c16) rfl rfl ?_;refine TL.off rfl rfl rfl rfl (eT c16) rfl rfl ?_;refine TL.op1 (OpR.pickT rfl (eT c16) rfl) rfl ?_;refine aA rfl rfl ?_;refine TL.off rfl rfl rfl rfl rfl rfl rfl ?_;refine TL.off rfl rfl rfl rfl rfl rfl rfl ?_;refine TL.off rfl rfl rfl rfl rfl rfl rfl ?_;refine TL.off rfl rfl rfl rfl rfl rfl rfl ?_;refine TL.op1 (OpR.pickT rfl rfl rfl) rfl ?_;refine TL.nil ?_;obtain rfl:=osi ht15;exact⟨_,Gst.only [0,4,5,6,8,11,12,13,29] rfl,rfl⟩
 refine TL.on rfl rfl rfl rfl (eF c16) ?_;refine aA rfl rfl ?_;refine TL.on rfl rfl rfl rfl (eF c16) ?_;refine aA rfl rfl ?_;refine TL.on rfl rfl rfl rfl (eF c16) ?_;refine aA rfl rfl ?_;refine TL.op1 (OpR.pickF rfl (eF c16) rfl) rfl ?_;refine aA rfl rfl ?_;rcases ite_some ht15 with ⟨c17,ht15⟩|⟨c17,ht15⟩
 ·refine TL.off rfl rfl rfl rfl (eT c17) rfl rfl ?_;refine TL.off rfl rfl rfl rfl (eT c17) rfl rfl ?_;refine TL.off rfl rfl rfl rfl (eT c17) rfl rfl ?_;refine TL.off rfl rfl rfl rfl (eT c17) rfl rfl ?_;refine TL.op1 (OpR.pickT rfl (eT c17) rfl) rfl ?_;refine TL.nil ?_;obtain rfl:=osi ht15;exact⟨_,Gst.only [0,4,5,6,8,11,12,13,29] rfl,rfl⟩
 refine TL.on rfl rfl rfl rfl (eF c17) ?_;refine aA rfl rfl ?_;refine TL.on rfl rfl rfl rfl (eF c17) ?_;refine aA rfl rfl ?_;refine TL.on rfl rfl rfl rfl (eF c17) ?_;obtain⟨x18,hx18,ht15⟩:=bS ht15;refine TL.op1 (OpR.rowIndexM eB 0 hx18 rfl rfl rfl rfl rfl rfl rfl) rfl ?_;refine TL.on rfl rfl rfl rfl (eF c17) ?_;refine TL.op1 (OpR.rowLoad0M (j:=x14) eB 0 hx18 rfl rfl rfl rfl) rfl ?_;refine TL.op1 (OpR.pickF rfl (eF c17) rfl) rfl ?_;refine TL.nil ?_;obtain rfl:=osi ht15;exact⟨_,Gst.only [0,4,5,6,8,11,12,13,29] rfl,rfl⟩
noncomputable def slices_Equal_bool_bool.l1 (a0:List Bool) (a1:List Bool) (s4:Int):Option (Lp Int (Ex Unit Bool)):=
 if s4<(a0.length:Int) then
 bnd (idx a0 s4) fun x14=>
 bnd (idx a1 s4) fun x15=>
 if (x14==x15)=true then
 some (Lp.next (w64 (s4+1)))
else
 some (Lp.done (Ex.ret false))
else
 some (Lp.done (Ex.brk ()))
noncomputable def slices_Equal_bool_bool (a0:List Bool) (a1:List Bool):Option Bool:=
 if (a0.length:Int)=(a1.length:Int) then
 bnd (loop (slices_Equal_bool_bool.l1 a0 a1) 0:Option (Ex Unit Bool)) fun t2=>match t2 with
| .brk u3=>
 some true
| .ret u3=>some u3
else
 some false
theorem slices_Equal_bool_bool_c {a0:List Bool} {a1:List Bool} {res:Bool} (h0:slices_Equal_bool_bool a0 a1=some res):CallF X 99 [.sl 1 (List.map eB a0),.sl 1 (List.map eB a1)] [] (fun x=>(dT res)) (fun x=>[]):=by
 unfold slices_Equal_bool_bool at h0;refine CallF.mkG (X:=X) rfl Tryz.func99 rfl rfl Tryz.ntmps99 rfl rfl ?_;refine aS ?_;refine aA rfl rfl ?_;refine aN rfl ?_;refine T.seq ?_;refine aS ?_;refine aA rfl rfl ?_;refine TL.op1 (OpR.cast (OpR.pure rfl) (intE (lenM _ _))) rfl ?_;refine aA rfl rfl ?_;refine TL.op1 (OpR.cast (OpR.pure rfl) (intE (lenM _ _))) rfl ?_;refine aA rfl rfl ?_;refine aN rfl ?_;rcases ite_some h0 with ⟨c1,h0⟩|⟨c1,h0⟩;rotate_left
 ·refine T.condT rfl (not_f (beq_eq_false_iff_ne.2 c1)) ?_;refine aS ?_;refine aA rfl rfl ?_;refine aN rfl ?_;refine T.ret ?_;obtain rfl:=osi h0;exact rO [] [4] rfl undef (cT rfl ResL.nil) rfl rfl rfl rfl
 refine T.condF rfl (not_t (beq_iff_eq.2 c1)) ?_;refine aK rfl ?_;refine T.seq ?_;refine aS ?_;refine aA rfl rfl ?_;refine TL.op1 (OpR.cast (OpR.pure rfl) (intE (lenM _ _))) rfl ?_;refine aA rfl rfl ?_;refine aN rfl ?_;obtain⟨t2,ht2,h0⟩:=bS h0;refine T.cutC (fun S'=>∃ u3,t2=Ex.brk u3∧S'=⟨[(4,(dT false))],[],26⟩) (fun _ h=>h) ?_ ?_;rotate_left
 ·rintro _ ⟨u3,rfl,rfl⟩;show T X _ _ _;refine aS ?_;refine aA rfl rfl ?_;refine aN rfl ?_;refine T.ret ?_;obtain rfl:=osi h0;exact rO [] [4] rfl undef (cT rfl ResL.nil) rfl rfl rfl rfl
 refine T.block ?_;obtain⟨n5,n10⟩:=loop_some ht2;refine T.loop (fun n S'=>∃ S'',Gst S' S''∧∃ s4:Int,S''=⟨[(13,(dN s4)),(12,(dN (a0.length:Int))),(4,(dT false)),(1,.sl 1 (List.map eB a1)),(0,.sl 1 (List.map eB a0))],[],26⟩∧iter (slices_Equal_bool_bool.l1 a0 a1) n s4=some t2) n5 ?_ ?_
 ·exact⟨_,Gst.only [0,1,4,12,13] rfl,0,rfl,n10⟩
 rintro n5 _ ⟨_,g,s4,rfl,i9⟩;refine T.ghost g ?_;obtain⟨m6,q7,rfl,q8,i9⟩:=iter_succ i9;unfold slices_Equal_bool_bool.l1 at q8;refine aS ?_;refine aA rfl rfl ?_;refine aN rfl ?_;refine T.seq ?_;rcases ite_some q8 with ⟨c12,q8⟩|⟨c12,q8⟩;rotate_left
 ·refine T.condF rfl (eF c12) ?_;refine T.exit ?_;obtain rfl:=osi q8;obtain rfl:_=_:=i9;exact⟨_,Gst.only [4] rfl,_,rfl,rfl⟩
 refine T.condT rfl (eT c12) ?_;refine aK rfl ?_;refine T.seq ?_;refine T.block ?_;refine aS ?_;iterate 2 refine aA rfl rfl ?_
 refine aN rfl ?_;refine T.seq ?_;obtain⟨x14,hx14,q8⟩:=bS q8;obtain⟨x15,hx15,q8⟩:=bS q8;refine T.drawQ drawsX [.sl 1 (List.map eB a0),dN s4,.nod [dT x14],dT x14,.sl 1 (List.map eB a1),dN s4,.nod [dT x15],dT x15,dT (!(x14==x15))] [0,1,4,12,13,24] (by decide +kernel) rfl ?_ rfl ?_
 ·iterate 2 refine aB rfl rfl rfl ?_
  refine OpsQ.yes (Want.plain rfl) rfl (OpR.indexM eB hx14 rfl rfl rfl rfl rfl) ?_;iterate 3 refine aB rfl rfl rfl ?_
  refine OpsQ.yes (Want.plain rfl) rfl (OpR.indexM eB hx15 rfl rfl rfl rfl rfl) ?_;refine aB rfl rfl rfl ?_;refine OpsQ.yes (Want.plain rfl) rfl (OpR.neBool rfl rfl rfl rfl) ?_;exact OpsQ.nil
 show T X _ _ _;rcases ite_some q8 with ⟨c16,q8⟩|⟨c16,q8⟩
 ·refine T.condF rfl (not_t (c16)) ?_;refine aK rfl ?_;refine T.region ?_;iterate 2 refine aA rfl rfl ?_
  refine TL.nil ?_;obtain rfl:=osi q8;exact⟨m6,Nat.lt_succ_self _,_,Gst.only [0,1,4,12,13] rfl,w64 (s4+1),rfl,i9⟩
 refine T.condT rfl (not_f (eq_false_of_ne_true c16)) ?_;refine aS ?_;refine aA rfl rfl ?_;refine aN rfl ?_;refine T.ret ?_;obtain rfl:=osi q8;obtain rfl:_=_:=i9;obtain rfl:=osi h0;exact rO [] [4] rfl undef (cT rfl ResL.nil) rfl rfl rfl rfl
noncomputable def walk_All_row_Row_r0 (a0:Int) (a1:row_Row) (a2:List row_Row):Option (List row_Row):=
 bnd (app 40 a2 [a1]) fun x32=>
 some x32
theorem walk_All_row_Row_r0_c {a0:Int} {a1:row_Row} {a2:List row_Row} {b0:Nat} {b1:Nat} {v2:Value} {res:(List row_Row)} (h0:walk_All_row_Row_r0 a0 a1 a2=some res):RoundF X b0 [dN a0,.agg [.sl 5 (List.map e_cell_Cell a1.fCells),dN a1.fEnd,dT a1.fHidden]] [.lp b0 .ready none [13,14] rfA100_0 rfB100_0 [(3,(dP b1))] 20,.var b1 [.val v2] 163,.row v2 (List.map e_row_Row a2) 3 49] (fun x=>(dT true)) (fun x=>[.lp b0 .ready none [13,14] rfA100_0 rfB100_0 [(3,(dP b1))] 20,.var b1 [.val (vn x 0)] 163,.row (vn x 0) (List.map e_row_Row res) 3 49]):=by
 unfold walk_All_row_Row_r0 at h0;refine RoundF.mk (X:=X) rfl rfl rfl ?_;refine T.region ?_;refine TL.op (OpR.alloc rfl rfl (fun _=>rfl)) rfl (fun p31=>?_);refine TL.op0 (OpR.store 3 rfl rfl rfl rfl rfl rfl rfl rfl) ?_;refine TL.nil ?_;refine RoundA.mk ?_;refine T.block ?_;refine T.region ?_;refine TL.op1 (OpR.loadPtr 1 rfl rfl rfl rfl) rfl ?_;refine TL.op1 (OpR.loadPtr 3 rfl rfl rfl rfl) rfl ?_;refine TL.op1 (OpR.lit rfl rfl rfl rfl rfl rfl rfl) rfl ?_;obtain⟨x32,hx32,h0⟩:=bS h0;refine TL.op (OpR.appendM (m:=[a1]) e_row_Row 2 hx32 rfl rfl rfl rfl rfl rfl rfl rfl rfl (fun _=>rfl)) rfl (fun v33=>?_);refine TL.op0 (OpR.store 1 rfl rfl rfl rfl rfl rfl rfl rfl) ?_;refine TL.nil ?_;obtain rfl:=osi h0;exact RoundG.mk (ks:=[0,1,2]) (gP [] [0,1,2] rfl rfl rfl) (.tuple #[v33]) rfl rfl rfl rfl rfl
noncomputable def walk_Range_row_Row_1_2.l1 (a1:Int) (s10:Int × (List row_Row) × (List wFr)):Option (Lp (Int × (List row_Row) × (List wFr)) (List row_Row)):=
 if s10.1<a1 then
  bnd (walk_stack_row_Row_top s10.2.2) fun x19=>
  bnd (idx s10.2.2 x19) fun x20=>
  bnd (some x20.fN) fun q21=>match q21 with
   | none=>
    none
   | some z22=>
    bnd (o_tNd z22) fun x24=>
    bnd (if x20.fNext=(x24.fItems.length:Int) then
     bnd (walk_stack_row_Row_forth s10.2.2) fun x29=>
     some x29.2
    else
     some s10.2.2:Option (List wFr)) fun t26=>
    bnd (walk_stack_row_Row_top t26) fun x31=>
    bnd (idx t26 x31) fun x32=>
    bnd (some x32.fN) fun q33=>match q33 with
     | none=>
      none
     | some z34=>
      bnd (o_tNd z34) fun x36=>
      bnd (idx x36.fItems x32.fNext) fun x38=>
      bnd (walk_All_row_Row_r0 s10.1 x38 s10.2.1) fun x39=>
      some (Lp.next (w64 (s10.1+1),x39,(t26.set x31.toNat (⟨x32.fN,x32.fFirst,w64 (x32.fNext+1)⟩:wFr))))
 else
  some (Lp.done s10.2.1)
noncomputable def walk_Range_row_Row_1_2 (a0:Int) (a1:Int) (a2:Option NP) (a3:List row_Row):Option (List row_Row):=
 if a0=a1 then
 some a3
else
 bnd (tree_Tree_row_Row_Root (⟨a2⟩:tTr)) fun x4=>
 match x4 with
| .inl x4=>
 none
| .inr x4=>
 bnd (walk_stack_row_Row_down x4.1 x4.2.1 x4.2.2 0 a0) fun x5=>
 bnd (loop (walk_Range_row_Row_1_2.l1 a1) (a0,a3,x5):Option (List row_Row)) fun t6=>
 some t6
theorem walk_Range_row_Row_1_2_c {a0:Int} {a1:Int} {a2:Option NP} {a3:List row_Row} {b0:Nat} {b1:Nat} {b2:Nat} {b3:Nat} {b4:Nat} {v5:Value} {res:(List row_Row)} (h0:walk_Range_row_Row_1_2 a0 a1 a2 a3=some res):CallF X 146 [.fn (.yield b0) [] [],dP b1,dP b2,dP b3] [.lp b0 .ready none [13,14] rfA100_0 rfB100_0 [(3,(dP b4))] 20,.var b1 [dN a0] 3,.var b2 [dN a1] 3,.var b3 [(eOP a2)] 25,.var b4 [.val v5] 163,.row v5 (List.map e_row_Row a3) 3 49] (fun x=>.tup []) (fun x=>[.lp b0 .ready none [13,14] rfA100_0 rfB100_0 [(3,(dP b4))] 20,.var b1 [dN a0] 3,.var b2 [dN a1] 3,.var b3 [(eOP a2)] 25,.var b4 [.val (vn x 0)] 163,.row (vn x 0) (List.map e_row_Row res) 3 49]):=by
 unfold walk_Range_row_Row_1_2 at h0;refine CallF.mkG (X:=X) rfl Tryz.func146 rfl rfl Tryz.ntmps146 rfl rfl ?_;refine T.seq ?_;refine aS ?_;refine TL.op1 (OpR.loadPtr 1 rfl rfl rfl rfl) rfl ?_;refine TL.op1 (OpR.loadPtr 2 rfl rfl rfl rfl) rfl ?_;refine aA rfl rfl ?_;refine aN rfl ?_;rcases ite_some h0 with ⟨c1,h0⟩|⟨c1,h0⟩
 ·refine T.condT rfl (beq_iff_eq.2 c1) ?_;refine T.ret ?_;obtain rfl:=osi h0;exact rO [0,1,2,3,4,5] [] rfl (.tuple #[v5]) ResL.nil rfl rfl rfl rfl
 refine T.condF rfl (beq_eq_false_iff_ne.2 c1) ?_;refine aK rfl ?_;refine aS ?_;refine TL.op (OpR.alloc rfl rfl (fun _=>rfl)) rfl (fun p2=>?_);refine aN rfl ?_;refine T.seq ?_;obtain⟨x4,hx4,h0⟩:=bS h0;rcases x4 with x4|x4
 ·dsimp only at h0;exact (by cases h0)
 dsimp only at h0;obtain⟨x5,hx5,h0⟩:=bS h0;refine T.drawS drawsX (fun env3=>[.agg [(eOP a2)],.nod [.sl 1 (List.map eNP x4.1),.sl 3 (List.map e_row_Row x4.2.1),dN x4.2.2],dN a0,.tup []]) (fun D env3=>[.lp b0 .ready none [13,14] rfA100_0 rfB100_0 [(3,(dP b4))] 20,.var b1 [dN a0] 3,.var b2 [dN a1] 3,.var b3 [(eOP a2)] 25,.var b4 [.val v5] 163,.row v5 (List.map e_row_Row a3) 3 49,(bif D 3 then .var (blk p2) [.val (vn (env3 3) 0)] 228 else .var (blk p2) [.val (.slice none 0 0)] 228)]++(bif D 3 then [.row (vn (env3 3) 0) (List.map e_wFr x5) 3 234] else [])) [0,1,0,7] [0,1,2,5] _ (by decide +kernel) (by decide +kernel) (fun _=>rfl) (fun _=>rfl) ?_ (fun _=>rfl) (fun _=>rfl) ?_
 ·refine oT (.agg [(eOP a2)]) (fun _ _=>OpR.loadPtr 3 rfl rfl rfl rfl) ?_;refine oT (.nod [.sl 1 (List.map eNP x4.1),.sl 3 (List.map e_row_Row x4.2.1),dN x4.2.2]) (fun _ _=>OpR.call0 fn148 (tree_Tree_row_Row_Root_cx2 hx4) rfl) ?_;refine oT ((dN a0)) (fun _ _=>OpR.loadPtr 1 rfl rfl rfl rfl) ?_;refine OpsS.cons' true ?_ (fun D hA env3 x j hj hD=>match j,hj,hD with|0,_,_=>rfl|1,_,_=>rfl|2,_,_=>rfl|3,hj,_=>absurd rfl hj|_+4,_,_=>rfl) ?_
  ·intro D env3 hA;exact OpS.yp [(3,false)] ⟨hA.me,trivial⟩ (Want.plain rfl) (OpR.call [6] fn147 (walk_stack_row_Row_down_c hx5) rfl rfl rfl (fun _=>rfl)) (fun x=>rfl) (fun x=>rfl)
  exact trivial
 intro env3;show T X _ _ _;refine aS ?_;refine TL.op1 (OpR.loadPtr 1 rfl rfl rfl rfl) rfl ?_;refine aA rfl rfl ?_;refine aN rfl ?_;obtain⟨t6,ht6,h0⟩:=bS h0;refine T.cutN (fun S'=>∃ y7:Value,S'=⟨[],[.lp b0 .ready none [13,14] rfA100_0 rfB100_0 [(3,(dP b4))] 20,.var b1 [dN a0] 3,.var b2 [dN a1] 3,.var b3 [(eOP a2)] 25,.var b4 [.val y7] 163,.row y7 (List.map e_row_Row t6) 3 49],62⟩) (fun _ _ g ⟨h,S',ds,g',r⟩=>⟨h,S',ds,Gst.trans g g',r⟩) ?_ ?_;rotate_left
 ·rintro _ ⟨y7,rfl⟩;obtain rfl:=osi h0;exact PostG.finP (ks:=[0,1,2,3,4,5]) (Gst.only [] rfl) (.tuple #[y7]) ResL.nil rfl rfl rfl rfl
 refine T.block ?_;obtain⟨n11,n16⟩:=loop_some ht6;refine T.loop (fun n S'=>∃ S'',Gst S' S''∧∃ y8:Value,∃ y9:Value,∃ s10:Int × (List row_Row) × (List wFr),S''=⟨[(6,(dN s10.1)),(5,(dP (blk p2))),(2,(dP b2)),(0,.fn (.yield b0) [] [])],[.lp b0 .ready none [13,14] rfA100_0 rfB100_0 [(3,(dP b4))] 20,.var b1 [dN a0] 3,.var b2 [dN a1] 3,.var b3 [(eOP a2)] 25,.var b4 [.val y8] 163,.row y8 (List.map e_row_Row s10.2.1) 3 49,.var (blk p2) [.val y9] 228,.row y9 (List.map e_wFr s10.2.2) 3 234],62⟩∧iter (walk_Range_row_Row_1_2.l1 a1) n s10=some t6) n11 ?_ ?_
 ·exact⟨_,Gst.only [0,2,5,6] rfl,v5,(vn (env3 3) 0),(a0,a3,x5),rfl,n16⟩
 rintro n11 _ ⟨_,g,y8,y9,s10,rfl,i15⟩;refine T.ghost g ?_;obtain⟨m12,q13,rfl,q14,i15⟩:=iter_succ i15;unfold walk_Range_row_Row_1_2.l1 at q14;refine T.seq ?_;refine aS ?_;refine aA rfl rfl ?_;refine TL.op1 (OpR.loadPtr 2 rfl rfl rfl rfl) rfl ?_;refine aA rfl rfl ?_;refine aN rfl ?_;rcases ite_some q14 with ⟨c18,q14⟩|⟨c18,q14⟩;rotate_left
 ·refine T.condF rfl (eF c18) ?_;refine T.exit ?_;obtain rfl:=osi q14;obtain rfl:_=_:=i15;exact⟨_,gP [] [0,1,2,3,4,5] rfl rfl rfl,y8,rfl⟩
 refine T.condT rfl (eT c18) ?_;refine aK rfl ?_;refine T.seq ?_;refine T.block ?_;refine T.seq ?_;refine aS ?_;obtain⟨x19,hx19,q14⟩:=bS q14;refine TL.op1 (OpR.call [6,7] fn149 (walk_stack_row_Row_top_c hx19) rfl rfl rfl (fun _=>rfl)) rfl ?_;refine aA rfl rfl ?_;refine aN rfl ?_;refine T.seq ?_;obtain⟨x20,hx20,q14⟩:=bS q14;obtain⟨q21,hq21,q14⟩:=bS q14;rcases q21 with _|z22
 ·dsimp only at q14;exact (by cases q14)
 dsimp only at q14;obtain⟨x24,hx24,q14⟩:=bS q14;rw[o_tNd_eq hx24] at hq21;refine T.drawQ drawsX [.val (.pointer (some ⟨blk y9,x19.toNat*3,none⟩)),.val (.pointer (some ⟨blk y9,x19.toNat*3,none⟩)),.val (.pointer (some ⟨blk y9,x19.toNat*3+2,none⟩)),dN x20.fNext,.val (.pointer (some ⟨blk y9,x19.toNat*3,none⟩)),.val (.pointer (some ⟨blk y9,x19.toNat*3,none⟩)),.val (.pointer (some ⟨blk y9,x19.toNat*3,none⟩)),.nod [.sl 1 (List.map eNP x24.fKids),.sl 3 (List.map e_row_Row x24.fItems),dN x24.fN],.nod [.sl 1 (List.map eNP x24.fKids),.sl 3 (List.map e_row_Row x24.fItems),dN x24.fN],.nod [.sl 3 (List.map e_row_Row x24.fItems),dN x24.fN],.sl 3 (List.map e_row_Row x24.fItems),dN (x24.fItems.length:Int),dT (x20.fNext==(x24.fItems.length:Int))] [0,2,5,6,35] (by decide +kernel) rfl ?_ rfl ?_
 ·iterate 3 refine aB rfl rfl rfl ?_
  refine OpsQ.yes (Want.plain rfl) rfl (OpR.rowLoadM (j:=x19) e_wFr 7 hx20 rfl rfl rfl rfl) ?_;iterate 3 refine aB rfl rfl rfl ?_
  refine OpsQ.yes (Want.plain rfl) rfl (OpR.cast (OpR.rowLoad0M (j:=x19) e_wFr 7 hx20 rfl rfl rfl rfl) (congrArg eOP (osi hq21))) ?_;iterate 3 refine aB rfl rfl rfl ?_
  refine OpsQ.yes (Want.plain rfl) rfl (OpR.cast (OpR.pure rfl) (intE (lenM _ _))) ?_;refine aB rfl rfl rfl ?_;exact OpsQ.nil
 show T X _ _ _;obtain⟨t26,ht26,q14⟩:=bS q14;refine T.cutC (fun S'=>∃ y27:Value,S'=⟨[(6,(dN s10.1)),(5,(dP (blk p2))),(2,(dP b2)),(0,.fn (.yield b0) [] [])],[.lp b0 .ready none [13,14] rfA100_0 rfB100_0 [(3,(dP b4))] 20,.var b1 [dN a0] 3,.var b2 [dN a1] 3,.var b3 [(eOP a2)] 25,.var b4 [.val y8] 163,.row y8 (List.map e_row_Row s10.2.1) 3 49,.var (blk p2) [.val y27] 228,.row y27 (List.map e_wFr t26) 3 234],62⟩) (fun _ h=>h) ?_ ?_
 ·rcases ite_some ht26 with ⟨c28,ht26⟩|⟨c28,ht26⟩;rotate_left
  ·refine T.condF rfl (beq_eq_false_iff_ne.2 c28) ?_;refine T.skip ?_;obtain rfl:=osi ht26;exact⟨_,Gst.only [0,2,5,6] rfl,y9,rfl⟩
  refine T.condT rfl (beq_iff_eq.2 c28) ?_;refine T.region ?_;obtain⟨x29,hx29,ht26⟩:=bS ht26;refine TL.op (OpR.call [6,7] fn150 (walk_stack_row_Row_forth_c hx29) rfl rfl rfl (fun _=>rfl)) rfl (fun w30=>?_);refine TL.nil ?_;obtain rfl:=osi ht26;exact⟨_,Gst.only [0,2,5,6] rfl,(vn w30 0),rfl⟩
 rintro _ ⟨y27,rfl⟩;show T X _ _ _;refine aS ?_;obtain⟨x31,hx31,q14⟩:=bS q14;refine TL.op1 (OpR.call [6,7] fn149 (walk_stack_row_Row_top_c hx31) rfl rfl rfl (fun _=>rfl)) rfl ?_;refine aA rfl rfl ?_;refine aN rfl ?_;refine T.seq ?_;refine T.seq ?_;obtain⟨x32,hx32,q14⟩:=bS q14;obtain⟨q33,hq33,q14⟩:=bS q14;rcases q33 with _|z34
 ·dsimp only at q14;exact (by cases q14)
 dsimp only at q14;obtain⟨x36,hx36,q14⟩:=bS q14;rw[o_tNd_eq hx36] at hq33;obtain⟨x38,hx38,q14⟩:=bS q14;obtain⟨x39,hx39,q14⟩:=bS q14;refine T.drawS drawsX (fun env37=>[.fn (.yield b0) [] [],dN s10.1,.val (.pointer (some ⟨blk y27,x31.toNat*3,none⟩)),.val (.pointer (some ⟨blk y27,x31.toNat*3,none⟩)),.val (.pointer (some ⟨blk y27,x31.toNat*3,none⟩)),.nod [.sl 1 (List.map eNP x36.fKids),.sl 3 (List.map e_row_Row x36.fItems),dN x36.fN],.nod [.sl 1 (List.map eNP x36.fKids),.sl 3 (List.map e_row_Row x36.fItems),dN x36.fN],.nod [.sl 3 (List.map e_row_Row x36.fItems),dN x36.fN],.sl 3 (List.map e_row_Row x36.fItems),.val (.pointer (some ⟨blk y27,x31.toNat*3,none⟩)),.val (.pointer (some ⟨blk y27,x31.toNat*3,none⟩)),.val (.pointer (some ⟨blk y27,x31.toNat*3+2,none⟩)),dN x32.fNext,.nod [.sl 5 (List.map e_cell_Cell x38.fCells),dN x38.fEnd,dT x38.fHidden],.agg [.sl 5 (List.map e_cell_Cell x38.fCells),dN x38.fEnd,dT x38.fHidden],dT true,dT false]) (fun D env37=>[.lp b0 .ready none [13,14] rfA100_0 rfB100_0 [(3,(dP b4))] 20,.var b1 [dN a0] 3,.var b2 [dN a1] 3,.var b3 [(eOP a2)] 25,(bif D 15 then .var b4 [.val (vn (env37 15) 0)] 163 else .var b4 [.val y8] 163),(bif D 15 then .row (vn (env37 15) 0) (List.map e_row_Row x39) 3 49 else .row y8 (List.map e_row_Row s10.2.1) 3 49),.var (blk p2) [.val y27] 228,.row y27 (List.map e_wFr t26) 3 234]) [0,0,0,4,12,28,60,124,252,0,512,1536,3584,8188,16380,32767,65535] [0,2,5,6,8,54] _ (by decide +kernel) (by decide +kernel) (fun _=>rfl) (fun _=>rfl) ?_ (fun _=>rfl) (fun _=>rfl) ?_;rotate_left
 ·intro env37;show T X _ _ _;refine T.condF rfl rfl ?_;refine aK rfl ?_;refine T.region ?_;iterate 3 refine aA rfl rfl ?_
  refine TL.op1 (OpR.rowLoadM (j:=x31) e_wFr 7 hx32 rfl rfl rfl rfl) rfl ?_;iterate 3 refine aA rfl rfl ?_
  refine TL.op0 (OpR.rowStoreM (j:=x31) e_wFr (⟨x32.fN,x32.fFirst,w64 (x32.fNext+1)⟩:wFr) 7 hx32 rfl rfl rfl rfl rfl rfl rfl rfl rfl) ?_;refine aN rfl ?_;refine T.region ?_;iterate 3 refine aA rfl rfl ?_
  refine TL.nil ?_;obtain rfl:=osi q14;exact⟨m12,Nat.lt_succ_self _,_,Gst.only [0,2,5,6] rfl,(vn (env37 15) 0),y27,(w64 (s10.1+1),x39,(t26.set x31.toNat (⟨x32.fN,x32.fFirst,w64 (x32.fNext+1)⟩:wFr))),rfl,i15⟩
 iterate 5 refine aC ?_
 refine oT (.nod [.sl 1 (List.map eNP x36.fKids),.sl 3 (List.map e_row_Row x36.fItems),dN x36.fN]) (fun _ _=>OpR.cast (OpR.rowLoad0M (j:=x31) e_wFr 7 hx32 rfl rfl rfl rfl) (congrArg eOP (osi hq33))) ?_;iterate 6 refine aC ?_
 refine oT ((dN x32.fNext)) (fun _ _=>OpR.rowLoadM (j:=x31) e_wFr 7 hx32 rfl rfl rfl rfl) ?_;refine oT (.nod [.sl 5 (List.map e_cell_Cell x38.fCells),dN x38.fEnd,dT x38.fHidden]) (fun _ _=>OpR.indexM e_row_Row hx38 rfl rfl rfl rfl rfl) ?_;refine aC ?_;refine OpsS.cons' true ?_ (fun D hA env37 x j hj hD=>match j,hj,hD with|0,_,_=>rfl|1,_,_=>rfl|2,_,_=>rfl|3,_,_=>rfl|4,_,_=>rfl|5,_,_=>rfl|6,_,_=>rfl|7,_,_=>rfl|8,_,_=>rfl|9,_,_=>rfl|10,_,_=>rfl|11,_,_=>rfl|12,_,_=>rfl|13,_,_=>rfl|14,_,_=>rfl|15,hj,_=>absurd rfl hj|16,_,_=>rfl|_+17,_,_=>rfl) ?_
 ·intro D env37 hA;exact OpS.yp [(15,false)] ⟨hA.me,trivial⟩ (Want.plain rfl) (OpR.callY [0,4,5] rfl (walk_All_row_Row_r0_c hx39) rfl rfl rfl (fun _=>rfl)) (fun x=>rfl) (fun x=>rfl)
 refine aC ?_;exact trivial
noncomputable def walk_All_row_Row (a0:tTr):Option (List row_Row):=
 bnd (tree_Tree_row_Row_Len a0) fun x1=>
 bnd ((mkc 40 x1:Option (List row_Row))) fun x2=>
 bnd (tree_Tree_row_Row_Len a0) fun x6=>
 bnd (walk_Range_row_Row a0 0 x6) fun x7=>
 bnd (walk_Range_row_Row_1_2 x7.1 x7.2.1 x7.2.2 x2) fun x9=>
 some x9
theorem walk_All_row_Row_c {a0:tTr} {res:(List row_Row)} (h0:walk_All_row_Row a0=some res):CallF X 100 [.agg [(eOP a0.fRoot)]] [] (fun x=>.val (vn x 0)) (fun x=>[.row (vn x 0) (List.map e_row_Row res) 3 49]):=by
 unfold walk_All_row_Row at h0;refine CallF.mkG (X:=X) rfl Tryz.func100 rfl rfl Tryz.ntmps100 rfl rfl ?_;refine aS ?_;refine TL.op1 (OpR.boxImm rfl rfl) rfl ?_;refine aA rfl rfl ?_;refine aN rfl ?_;refine aS ?_;refine aA rfl rfl ?_;obtain⟨x1,hx1,h0⟩:=bS h0;refine TL.op1 (OpR.call0 fn79 (tree_Tree_row_Row_Len_c hx1) rfl) rfl ?_;obtain⟨x2,hx2,h0⟩:=bS h0;refine TL.op (OpR.makeC e_row_Row hx2 rfl rfl rfl rfl rfl rfl rfl (fun _=>rfl)) rfl (fun v3=>?_);refine TL.op (OpR.alloc rfl rfl (fun _=>rfl)) rfl (fun p4=>?_);refine TL.op0 (OpR.store 1 rfl rfl rfl rfl rfl rfl rfl rfl) ?_;refine aN rfl ?_;refine T.seq ?_;refine T.seq ?_;obtain⟨x6,hx6,h0⟩:=bS h0;obtain⟨x7,hx7,h0⟩:=bS h0;refine T.drawS drawsX (fun env5=>[.agg [(eOP a0.fRoot)],.agg [(eOP a0.fRoot)],dN x6,.fn (.func 146) [] [dP (blk (vn (env5 3) 0)),dP (blk (vn (env5 3) 1)),dP (blk (vn (env5 3) 2))]]) (fun D env5=>[.row v3 (List.map e_row_Row x2) 3 49,.var (blk p4) [.val v3] 163]++(bif D 3 then [.var (blk (vn (env5 3) 0)) [dN x7.1] 3] else [])++(bif D 3 then [.var (blk (vn (env5 3) 1)) [dN x7.2.1] 3] else [])++(bif D 3 then [.var (blk (vn (env5 3) 2)) [(eOP x7.2.2)] 25] else [])) [0,0,2,7] [2,3,12] _ (by decide +kernel) (by decide +kernel) (fun _=>rfl) (fun _=>rfl) ?_ (fun _=>rfl) (fun _=>rfl) ?_;rotate_left
 ·intro env5;show T X _ _ _;refine T.block ?_;obtain⟨x9,hx9,h0⟩:=bS h0;refine T.rangeN (A:=rfA100_0) (B:=rfB100_0) [3] [2,3,4,1,0] (.inl rfl) rfl rfl rfl rfl rfl fn146 rfl rfl (fun l8=>(walk_Range_row_Row_1_2_c hx9)) (fun _=>rfl) (fun w10=>?_);show T X _ _ _;refine aS ?_;refine TL.op1 (OpR.loadPtr 1 rfl rfl rfl rfl) rfl ?_;refine aA rfl rfl ?_;refine aN rfl ?_;refine T.ret ?_;obtain rfl:=osi h0;exact rP [0] [2] [0] rfl rfl rfl (.tuple #[(vn w10 0)]) (cT rfl ResL.nil) rfl rfl rfl rfl
 iterate 2 refine aC ?_
 refine oT ((dN x6)) (fun _ _=>OpR.call0 fn79 (tree_Tree_row_Row_Len_c hx6) rfl) ?_;refine OpsS.cons' true ?_ (fun D hA env5 x j hj hD=>match j,hj,hD with|0,_,_=>rfl|1,_,_=>rfl|2,_,_=>rfl|3,hj,_=>absurd rfl hj|_+4,_,_=>rfl) ?_
 ·intro D env5 hA;exact OpS.yp [(3,false)] ⟨hA.me,trivial⟩ (Want.plain rfl) (OpR.call [] fn80 (walk_Range_row_Row_c hx7) rfl rfl rfl (fun _=>rfl)) (fun x=>rfl) (fun x=>rfl)
 exact trivial
noncomputable def order_Put.l1 (a0:grid_Grid) (a1:List Int) (a2:List Int) (s15:Int × (List row_Row)):Option (Lp (Int × (List row_Row)) (List row_Row)):=
 if s15.1<(a1.length:Int) then
 bnd (idx a1 s15.1) fun x24=>
 bnd (idx a2 s15.1) fun x26=>
 bnd (grid_Grid_Row a0 x26) fun x27=>
 bnd (idx s15.2 x24) fun x28=>
 some (Lp.next (w64 (s15.1+1),(s15.2.set x24.toNat x27.1)))
else
 some (Lp.done s15.2)
noncomputable def order_Put (a0:grid_Grid) (a1:List Int) (a2:List Int):Option (grid_Grid × Int):=
 bnd (grid_Grid_Len a0) fun x3=>
 bnd (order_marks x3 a1) fun x4=>
 bnd (grid_Grid_Len a0) fun x5=>
 bnd (order_marks x5 a2) fun x6=>
 bnd (if x4.2=true then
 if x6.2=true then
 bnd (slices_Equal_bool_bool x4.1 x6.1) fun x10=>
 some (!x10)
else
 some true
else
 some true:Option Bool) fun t7=>
 if t7=true then
 some ((⟨(⟨none⟩:tTr),false,0⟩:grid_Grid),1)
else
 bnd (walk_All_row_Row a0.fRows) fun x12=>
 bnd (loop (order_Put.l1 a0 a1 a2) (0,x12):Option (List row_Row)) fun t14=>
 bnd (tree_Of_row_Row t14) fun x29=>
 some ((⟨x29,a0.fTail,a0.fEnd⟩:grid_Grid),0)
theorem order_Put_c {a0:grid_Grid} {a1:List Int} {a2:List Int} {res:grid_Grid × Int} (h0:order_Put a0 a1 a2=some res):CallF X 40 [.agg [(eOP a0.fRows.fRoot),dT a0.fTail,dN a0.fEnd],.sl 1 (List.map (eI .i64) a1),.sl 1 (List.map (eI .i64) a2)] [] (fun x=>.tup [.agg [(eOP res.1.fRows.fRoot),dT res.1.fTail,dN res.1.fEnd],dN res.2]) (fun x=>[]):=by
 unfold order_Put at h0;refine CallF.mkG (X:=X) rfl Tryz.func40 rfl rfl Tryz.ntmps40 rfl rfl ?_;refine aS ?_;refine TL.op (OpR.boxVar rfl rfl (fun _=>rfl)) rfl (fun p1=>?_);refine TL.op (OpR.alloc rfl rfl (fun _=>rfl)) rfl (fun p2=>?_);refine aA rfl rfl ?_;refine aN rfl ?_;refine aS ?_;refine TL.op1 (OpR.loadPtr 0 rfl rfl rfl rfl) rfl ?_;obtain⟨x3,hx3,h0⟩:=bS h0;refine TL.op1 (OpR.call0 fn22 (grid_Grid_Len_c hx3) rfl) rfl ?_;refine aA rfl rfl ?_;obtain⟨x4,hx4,h0⟩:=bS h0;refine TL.op1 (OpR.call0 fn98 (order_marks_c hx4) rfl) rfl ?_;iterate 5 refine aA rfl rfl ?_
 refine aN rfl ?_;refine aS ?_;refine TL.op1 (OpR.loadPtr 0 rfl rfl rfl rfl) rfl ?_;obtain⟨x5,hx5,h0⟩:=bS h0;refine TL.op1 (OpR.call0 fn22 (grid_Grid_Len_c hx5) rfl) rfl ?_;refine aA rfl rfl ?_;obtain⟨x6,hx6,h0⟩:=bS h0;refine TL.op1 (OpR.call0 fn98 (order_marks_c hx6) rfl) rfl ?_;iterate 5 refine aA rfl rfl ?_
 refine aN rfl ?_;refine T.seq ?_;refine T.seq ?_;obtain⟨t7,ht7,h0⟩:=bS h0;refine T.cutC (fun S'=>S'=⟨[(40,(dT t7)),(7,(dN 0)),(6,(dP (blk p2))),(3,(dP (blk p1))),(2,.sl 1 (List.map (eI .i64) a2)),(1,.sl 1 (List.map (eI .i64) a1))],[.var (blk p1) [(eOP a0.fRows.fRoot),dT a0.fTail,dN a0.fEnd] 27,.var (blk p2) [(eOP none),dT false,dN 0] 27],69⟩) (fun _ h=>h) ?_ ?_
 ·refine T.region ?_;iterate 3 refine aA rfl rfl ?_
  rcases ite_some ht7 with ⟨c8,ht7⟩|⟨c8,ht7⟩;rotate_left
  ·refine TL.off rfl rfl rfl rfl (not_f (eq_false_of_ne_true c8)) rfl rfl ?_;refine TL.off rfl rfl rfl rfl (not_f (eq_false_of_ne_true c8)) rfl rfl ?_;refine TL.op1 (OpR.pickT rfl (not_f (eq_false_of_ne_true c8)) rfl) rfl ?_;refine aA rfl rfl ?_;refine TL.off rfl rfl rfl rfl rfl rfl rfl ?_;refine TL.off rfl rfl rfl rfl rfl rfl rfl ?_;refine TL.off rfl rfl rfl rfl rfl rfl rfl ?_;refine TL.off rfl rfl rfl rfl rfl rfl rfl ?_;refine TL.op1 (OpR.pickT rfl rfl rfl) rfl ?_;refine TL.nil ?_;obtain rfl:=osi ht7;exact⟨_,Gst.only [1,2,3,6,7,40] rfl,rfl⟩
  refine TL.on rfl rfl rfl rfl (not_t (c8)) ?_;refine aA rfl rfl ?_;refine TL.on rfl rfl rfl rfl (not_t (c8)) ?_;refine aA rfl rfl ?_;refine TL.op1 (OpR.pickF rfl (not_t (c8)) rfl) rfl ?_;refine aA rfl rfl ?_;rcases ite_some ht7 with ⟨c9,ht7⟩|⟨c9,ht7⟩;rotate_left
  ·refine TL.off rfl rfl rfl rfl (not_f (eq_false_of_ne_true c9)) rfl rfl ?_;refine TL.off rfl rfl rfl rfl (not_f (eq_false_of_ne_true c9)) rfl rfl ?_;refine TL.off rfl rfl rfl rfl (not_f (eq_false_of_ne_true c9)) rfl rfl ?_;refine TL.off rfl rfl rfl rfl (not_f (eq_false_of_ne_true c9)) rfl rfl ?_;refine TL.op1 (OpR.pickT rfl (not_f (eq_false_of_ne_true c9)) rfl) rfl ?_;refine TL.nil ?_;obtain rfl:=osi ht7;exact⟨_,Gst.only [1,2,3,6,7,40] rfl,rfl⟩
  refine TL.on rfl rfl rfl rfl (not_t (c9)) ?_;refine aA rfl rfl ?_;refine TL.on rfl rfl rfl rfl (not_t (c9)) ?_;refine aA rfl rfl ?_;refine TL.on rfl rfl rfl rfl (not_t (c9)) ?_;obtain⟨x10,hx10,ht7⟩:=bS ht7;refine TL.op1 (OpR.call0 fn99 (slices_Equal_bool_bool_c hx10) rfl) rfl ?_;refine TL.on rfl rfl rfl rfl (not_t (c9)) ?_;refine aA rfl rfl ?_;refine TL.op1 (OpR.pickF rfl (not_t (c9)) rfl) rfl ?_;refine TL.nil ?_;obtain rfl:=osi ht7;exact⟨_,Gst.only [1,2,3,6,7,40] rfl,rfl⟩
 rintro _ rfl;show T X _ _ _;rcases ite_some h0 with ⟨c11,h0⟩|⟨c11,h0⟩
 ·refine T.condT rfl (c11) ?_;refine aS ?_;refine TL.op1 (OpR.build rfl rfl rfl rfl rfl) rfl ?_;refine TL.op0 (OpR.store 1 rfl rfl rfl rfl rfl rfl rfl rfl) ?_;refine aA rfl rfl ?_;refine aN rfl ?_;refine T.ret ?_;obtain rfl:=osi h0;exact rP [] [6,7] [1] rfl rfl rfl undef (cV 0 rfl rfl rfl rfl (cT rfl ResL.nil)) rfl rfl rfl rfl
 refine T.condF rfl (eq_false_of_ne_true c11) ?_;refine aK rfl ?_;refine aS ?_;refine aA rfl rfl ?_;refine TL.op1 (OpR.loadPtr 0 rfl rfl rfl rfl) rfl ?_;obtain⟨x12,hx12,h0⟩:=bS h0;refine TL.op (OpR.call [] fn100 (walk_All_row_Row_c hx12) rfl rfl rfl (fun _=>rfl)) rfl (fun w13=>?_);refine aA rfl rfl ?_;refine aN rfl ?_;refine T.seq ?_;refine aS ?_;refine aA rfl rfl ?_;refine TL.op1 (OpR.cast (OpR.pure rfl) (intE (lenM _ _))) rfl ?_;refine aA rfl rfl ?_;refine aN rfl ?_;obtain⟨t14,ht14,h0⟩:=bS h0;refine T.cutC (fun S'=>S'=⟨[(12,.val (vn w13 0)),(7,(dN 0)),(6,(dP (blk p2))),(3,(dP (blk p1)))],[.var (blk p1) [(eOP a0.fRows.fRoot),dT a0.fTail,dN a0.fEnd] 27,.var (blk p2) [(eOP none),dT false,dN 0] 27,.row (vn w13 0) (List.map e_row_Row t14) 3 49],69⟩) (fun _ h=>h) ?_ ?_;rotate_left
 ·rintro _ rfl;show T X _ _ _;refine aS ?_;refine aA rfl rfl ?_;refine TL.ghost (Gst.freezeRow 2 rfl rfl (ReS.cons (Re.base .all) (ReS.refl _)) (ReO.same (ReO.same (ReO.same ReO.nil)))) ?_;obtain⟨x29,hx29,h0⟩:=bS h0;refine TL.op1 (OpR.call0 fn101 (tree_Of_row_Row_c hx29) rfl) rfl ?_;refine aA rfl rfl ?_;refine TL.op0 (OpR.store 0 rfl rfl rfl rfl rfl rfl rfl rfl) ?_;refine aN rfl ?_;refine aS ?_;refine TL.op1 (OpR.loadPtr 0 rfl rfl rfl rfl) rfl ?_;refine TL.op0 (OpR.store 1 rfl rfl rfl rfl rfl rfl rfl rfl) ?_;refine aA rfl rfl ?_;refine aN rfl ?_;refine T.ret ?_;obtain rfl:=osi h0;exact rP [] [6,7] [1] rfl rfl rfl undef (cV 0 rfl rfl rfl rfl (cT rfl ResL.nil)) rfl rfl rfl rfl
 refine T.block ?_;obtain⟨n16,n21⟩:=loop_some ht14;refine T.loop (fun n S'=>∃ S'',Gst S' S''∧∃ s15:Int × (List row_Row),S''=⟨[(47,(dN s15.1)),(46,(dN (a1.length:Int))),(45,.sl 1 (List.map (eI .i64) a1)),(12,.val (vn w13 0)),(7,(dN 0)),(6,(dP (blk p2))),(3,(dP (blk p1))),(2,.sl 1 (List.map (eI .i64) a2))],[.var (blk p1) [(eOP a0.fRows.fRoot),dT a0.fTail,dN a0.fEnd] 27,.var (blk p2) [(eOP none),dT false,dN 0] 27,.row (vn w13 0) (List.map e_row_Row s15.2) 3 49],69⟩∧iter (order_Put.l1 a0 a1 a2) n s15=some t14) n16 ?_ ?_
 ·exact⟨_,Gst.only [2,3,6,7,12,45,46,47] rfl,(0,x12),rfl,n21⟩
 rintro n16 _ ⟨_,g,s15,rfl,i20⟩;refine T.ghost g ?_;obtain⟨m17,q18,rfl,q19,i20⟩:=iter_succ i20;unfold order_Put.l1 at q19;refine aS ?_;refine aA rfl rfl ?_;refine aN rfl ?_;refine T.seq ?_;rcases ite_some q19 with ⟨c23,q19⟩|⟨c23,q19⟩;rotate_left
 ·refine T.condF rfl (eF c23) ?_;refine T.exit ?_;obtain rfl:=osi q19;obtain rfl:_=_:=i20;exact⟨_,Gst.only [3,6,7,12] rfl,rfl⟩
 refine T.condT rfl (eT c23) ?_;refine aK rfl ?_;refine T.seq ?_;refine T.block ?_;refine aS ?_;refine aA rfl rfl ?_;obtain⟨x24,hx24,q19⟩:=bS q19;refine TL.op1 (OpR.indexM (eI .i64) hx24 rfl rfl rfl rfl rfl) rfl ?_;iterate 3 refine aA rfl rfl ?_
 refine aN rfl ?_;obtain⟨x26,hx26,q19⟩:=bS q19;obtain⟨x27,hx27,q19⟩:=bS q19;obtain⟨x28,hx28,q19⟩:=bS q19;refine T.drawS drawsX (fun env25=>[.val (vn w13 0),dN x24,.agg [(eOP a0.fRows.fRoot),dT a0.fTail,dN a0.fEnd],.sl 1 (List.map (eI .i64) a2),dN s15.1,.nod [dN x26],dN x26,.tup [.agg [.sl 5 (List.map e_cell_Cell x27.1.fCells),dN x27.1.fEnd,dT x27.1.fHidden],dT x27.2],.tup [.agg [.sl 5 (List.map e_cell_Cell x27.1.fCells),dN x27.1.fEnd,dT x27.1.fHidden],dT x27.2],.agg [.sl 5 (List.map e_cell_Cell x27.1.fCells),dN x27.1.fEnd,dT x27.1.fHidden],dT x27.2,.val (.pointer (some ⟨blk (vn w13 0),x24.toNat*3,none⟩)),.dead]) (fun D env25=>[.var (blk p1) [(eOP a0.fRows.fRoot),dT a0.fTail,dN a0.fEnd] 27,.var (blk p2) [(eOP none),dT false,dN 0] 27,(bif D 12 then .row (vn w13 0) (List.map e_row_Row (s15.2.set x24.toNat x27.1)) 3 49 else .row (vn w13 0) (List.map e_row_Row s15.2) 3 49)]) [0,0,0,0,0,24,56,124,252,508,508,1023,3071] [2,3,6,7,12,45,46,47] _ (by decide +kernel) (by decide +kernel) (fun _=>rfl) (fun _=>rfl) ?_ (fun _=>rfl) (fun _=>rfl) ?_;rotate_left
 ·intro env25;show T X _ _ _;refine T.region ?_;iterate 2 refine aA rfl rfl ?_
  refine TL.nil ?_;obtain rfl:=osi q19;exact⟨m17,Nat.lt_succ_self _,_,Gst.only [2,3,6,7,12,45,46,47] rfl,(w64 (s15.1+1),(s15.2.set x24.toNat x27.1)),rfl,i20⟩
 iterate 2 refine aC ?_
 refine oT (.agg [(eOP a0.fRows.fRoot),dT a0.fTail,dN a0.fEnd]) (fun _ _=>OpR.loadPtr 0 rfl rfl rfl rfl) ?_;iterate 2 refine aC ?_
 refine oT (.nod [dN x26]) (fun _ _=>OpR.indexM (eI .i64) hx26 rfl rfl rfl rfl rfl) ?_;refine aC ?_;refine oT (.tup [.agg [.sl 5 (List.map e_cell_Cell x27.1.fCells),dN x27.1.fEnd,dT x27.1.fHidden],dT x27.2]) (fun _ _=>OpR.call0 fn24 (grid_Grid_Row_c hx27) rfl) ?_;iterate 3 refine aC ?_
 refine OpsS.cons' true ?_ (fun _ _ _ _ _ _ _=>rfl) ?_
 ·intro D env25 hA;have e12:D 12=false:=hA.no 12 _ rfl rfl;exact OpS.yp [(12,false)] ⟨e12,trivial⟩ (Want.plain rfl) (OpR.rowIndexM e_row_Row 2 hx28 rfl rfl rfl rfl rfl rfl rfl) (fun x=>rfl) (fun x=>rfl)
 refine OpsS.cons' true ?_ (fun _ _ _ _ _ _ _=>rfl) ?_
 ·intro D env25 hA;exact OpS.yp [(12,false)] ⟨hA.me,trivial⟩ (Want.plain rfl) (OpR.rowStore0M (j:=x24) e_row_Row x27.1 2 hx28 rfl rfl rfl rfl rfl rfl rfl rfl rfl) (fun x=>rfl) (fun x=>rfl)
 exact trivial
noncomputable def order_Sort (a0:grid_Grid) (a1:List order_By) (a2:List UInt8):Option (grid_Grid × Int):=
 bnd (order_Right a1) fun x2=>
 if x2=true then
 bnd (grid_Grid_Visible a0) fun x5=>
 bnd (order_Perm a0 a1 a2) fun x6=>
 bnd (order_Put a0 x5 x6) fun x7=>
 some (x7.1,x7.2)
else
 some ((⟨(⟨none⟩:tTr),false,0⟩:grid_Grid),1)
theorem order_Sort_c {a0:grid_Grid} {a1:List order_By} {a2:List UInt8} {b0:Nat} {v1:Value} {res:grid_Grid × Int} (h0:order_Sort a0 a1 a2=some res):CallF X 50 [.agg [(eOP a0.fRows.fRoot),dT a0.fTail,dN a0.fEnd],dP b0,.sl 2 (List.map e_order_By a1)] [.var b0 [.val v1] 264,.row v1 (lB a2) 1 5] (fun x=>.tup [.agg [(eOP res.1.fRows.fRoot),dT res.1.fTail,dN res.1.fEnd],dN res.2]) (fun x=>[.var b0 [.val v1] 264,.row v1 (lB a2) 1 5]):=by
 unfold order_Sort at h0;refine CallF.mkG (X:=X) rfl Tryz.func50 rfl rfl Tryz.ntmps50 rfl rfl ?_;refine aS ?_;refine TL.op1 (OpR.boxImm rfl rfl) rfl ?_;refine TL.op (OpR.alloc rfl rfl (fun _=>rfl)) rfl (fun p1=>?_);refine aA rfl rfl ?_;refine aN rfl ?_;refine T.seq ?_;refine aS ?_;refine aA rfl rfl ?_;obtain⟨x2,hx2,h0⟩:=bS h0;refine TL.op1 (OpR.call0 fn56 (order_Right_c hx2) rfl) rfl ?_;refine aA rfl rfl ?_;refine aN rfl ?_;rcases ite_some h0 with ⟨c3,h0⟩|⟨c3,h0⟩;rotate_left
 ·refine T.condT rfl (not_f (eq_false_of_ne_true c3)) ?_;refine aS ?_;refine TL.op1 (OpR.build rfl rfl rfl rfl rfl) rfl ?_;refine TL.op0 (OpR.store 2 rfl rfl rfl rfl rfl rfl rfl rfl) ?_;refine aA rfl rfl ?_;refine aN rfl ?_;refine T.ret ?_;obtain rfl:=osi h0;exact rO [0,1] [6,7] rfl undef (cV 2 rfl rfl rfl rfl (cT rfl ResL.nil)) rfl rfl rfl rfl
 refine T.condF rfl (not_t (c3)) ?_;refine aK rfl ?_;refine T.seq ?_;obtain⟨x5,hx5,h0⟩:=bS h0;obtain⟨x6,hx6,h0⟩:=bS h0;obtain⟨x7,hx7,h0⟩:=bS h0;refine T.drawS drawsX (fun env4=>[.agg [(eOP a0.fRows.fRoot),dT a0.fTail,dN a0.fEnd],.agg [(eOP a0.fRows.fRoot),dT a0.fTail,dN a0.fEnd],.sl 1 (List.map (eI .i64) x5),.agg [(eOP a0.fRows.fRoot),dT a0.fTail,dN a0.fEnd],dP b0,.sl 2 (List.map e_order_By a1),.sl 1 (List.map (eI .i64) x6),.tup [.agg [(eOP x7.1.fRows.fRoot),dT x7.1.fTail,dN x7.1.fEnd],dN x7.2],.agg [(eOP x7.1.fRows.fRoot),dT x7.1.fTail,dN x7.1.fEnd],dN x7.2,.dead,dN x7.2]) (fun D env4=>[.var b0 [.val v1] 264,.row v1 (lB a2) 1 5,(bif D 10 then .var (blk p1) [(eOP x7.1.fRows.fRoot),dT x7.1.fTail,dN x7.1.fEnd] 27 else .var (blk p1) [(eOP none),dT false,dN 0] 27)]) [0,0,2,0,0,0,62,127,255,255,1023,2047] [6,7] _ (by decide +kernel) (by decide +kernel) (fun _=>rfl) (fun _=>rfl) ?_ (fun _=>rfl) (fun _=>rfl) ?_;rotate_left
 ·intro env4;show T X _ _ _;refine T.ret ?_;obtain rfl:=osi h0;exact rO [0,1] [6,7] rfl undef (cV 2 rfl rfl rfl rfl (cT rfl ResL.nil)) rfl rfl rfl rfl
 iterate 2 refine aC ?_
 refine oT (.sl 1 (List.map (eI .i64) x5)) (fun _ _=>OpR.call0 fn51 (grid_Grid_Visible_c hx5) rfl) ?_;iterate 3 refine aC ?_
 refine OpsS.cons' true ?_ (fun _ _ _ _ _ _ _=>rfl) ?_
 ·intro D env4 hA;have e10:D 10=false:=hA.no 10 _ rfl rfl;exact OpS.yp [(10,false)] ⟨e10,trivial⟩ (Want.plain rfl) (OpR.call [0,1] fn59 (order_Perm_c hx6) rfl rfl rfl (fun _=>rfl)) (fun x=>rfl) (fun x=>rfl)
 refine oT (.tup [.agg [(eOP x7.1.fRows.fRoot),dT x7.1.fTail,dN x7.1.fEnd],dN x7.2]) (fun _ _=>OpR.call0 fn40 (order_Put_c hx7) rfl) ?_;iterate 2 refine aC ?_
 refine OpsS.cons' true ?_ (fun _ _ _ _ _ _ _=>rfl) ?_
 ·intro D env4 hA;exact OpS.yp [(10,false)] ⟨hA.me,trivial⟩ (Want.plain rfl) (OpR.store 2 rfl rfl rfl rfl rfl rfl rfl rfl) (fun x=>rfl) (fun x=>rfl)
 refine aC ?_;exact trivial
noncomputable def ref11_Visible.l1 (a0:ref11_Grid) (s4:Int × (List Int)):Option (Lp (Int × (List Int)) (List Int)):=
 if s4.1<(a0.fRows.length:Int) then
 bnd (idx a0.fRows s4.1) fun x13=>
 bnd (if x13.fHidden=true then
 some s4.2
else
 bnd (app 8 s4.2 [s4.1]) fun x18=>
 some x18:Option (List Int)) fun t15=>
 some (Lp.next (w64 (s4.1+1),t15))
else
 some (Lp.done s4.2)
noncomputable def ref11_Visible (a0:ref11_Grid):Option (List Int):=
 bnd (loop (ref11_Visible.l1 a0) (0,[]):Option (List Int)) fun t1=>
 some t1
theorem ref11_Visible_c {a0:ref11_Grid} {res:(List Int)} (h0:ref11_Visible a0=some res):CallF X 63 [.agg [.sl 3 (List.map e_ref08_Row a0.fRows),dT a0.fTail,dN a0.fEnd]] [] (fun x=>.sl 1 (List.map (eI .i64) res)) (fun x=>[]):=by
 unfold ref11_Visible at h0;refine CallF.mkG (X:=X) rfl Tryz.func63 rfl rfl Tryz.ntmps63 rfl rfl ?_;refine aS ?_;refine TL.op1 (OpR.boxImm rfl rfl) rfl ?_;refine aA rfl rfl ?_;refine aN rfl ?_;refine aS ?_;refine aA rfl rfl ?_;refine aN rfl ?_;refine T.seq ?_;refine aS ?_;iterate 2 refine aA rfl rfl ?_
 refine TL.op1 (OpR.cast (OpR.pure rfl) (intE (lenM _ _))) rfl ?_;refine aA rfl rfl ?_;refine aN rfl ?_;obtain⟨t1,ht1,h0⟩:=bS h0;refine T.cutC (fun S'=>∃ y2:Value,S'=⟨[(3,.val y2),(2,.val (.slice none 0 0))],[.row y2 (List.map (eI .i64) t1) 1 3],23⟩) (fun _ h=>h) ?_ ?_;rotate_left
 ·rintro _ ⟨y2,rfl⟩;show T X _ _ _;refine aS ?_;iterate 2 refine aA rfl rfl ?_
  refine aN rfl ?_;refine T.ret ?_;obtain rfl:=osi h0;exact PostG.retP (ks:=[]) (Gst.trans (Gst.only [2] rfl) (Gst.trans (Gst.freezeRow 0 rfl rfl (ReS.cons (Re.base .all) ReS.nil) (ReO.same ReO.nil)) (Gst.pick [] rfl rfl))) undef (cT rfl ResL.nil) rfl rfl rfl rfl
 refine T.block ?_;obtain⟨n5,n10⟩:=loop_some ht1;refine T.loop (fun n S'=>∃ S'',Gst S' S''∧∃ y3:Value,∃ s4:Int × (List Int),S''=⟨[(9,(dN s4.1)),(8,(dN (a0.fRows.length:Int))),(7,.sl 3 (List.map e_ref08_Row a0.fRows)),(3,.val y3),(2,.val (.slice none 0 0))],[.row y3 (List.map (eI .i64) s4.2) 1 3],23⟩∧iter (ref11_Visible.l1 a0) n s4=some t1) n5 ?_ ?_
 ·exact⟨_,Gst.trans (Gst.only [2,3,7,8,9] rfl) (Gst.nilRow (ow:=[]) 1 3 rfl),(.slice none 0 0),(0,[]),rfl,n10⟩
 rintro n5 _ ⟨_,g,y3,s4,rfl,i9⟩;refine T.ghost g ?_;obtain⟨m6,q7,rfl,q8,i9⟩:=iter_succ i9;unfold ref11_Visible.l1 at q8;refine aS ?_;refine aA rfl rfl ?_;refine aN rfl ?_;refine T.seq ?_;rcases ite_some q8 with ⟨c12,q8⟩|⟨c12,q8⟩;rotate_left
 ·refine T.condF rfl (eF c12) ?_;refine T.exit ?_;obtain rfl:=osi q8;obtain rfl:_=_:=i9;exact⟨_,Gst.only [2,3] rfl,y3,rfl⟩
 refine T.condT rfl (eT c12) ?_;refine aK rfl ?_;refine T.seq ?_;refine T.block ?_;refine aS ?_;refine aA rfl rfl ?_;obtain⟨x13,hx13,q8⟩:=bS q8;refine TL.op1 (OpR.indexM e_ref08_Row hx13 rfl rfl rfl rfl rfl) rfl ?_;refine aA rfl rfl ?_;refine TL.op (OpR.alloc rfl rfl (fun _=>rfl)) rfl (fun p14=>?_);refine aA rfl rfl ?_;refine TL.op0 (OpR.store 1 rfl rfl rfl rfl rfl rfl rfl rfl) ?_;refine aN rfl ?_;refine aS ?_;refine aA rfl rfl ?_;refine TL.op1 (OpR.loadPtr 1 rfl rfl rfl rfl) rfl ?_;refine aA rfl rfl ?_;refine aN rfl ?_;obtain⟨t15,ht15,q8⟩:=bS q8;refine T.cutC (fun S'=>∃ y16:Value,S'=⟨[(9,(dN s4.1)),(8,(dN (a0.fRows.length:Int))),(7,.sl 3 (List.map e_ref08_Row a0.fRows)),(3,.val y16),(2,.val (.slice none 0 0))],[.row y16 (List.map (eI .i64) t15) 1 3],23⟩) (fun _ h=>h) ?_ ?_;rotate_left
 ·rintro _ ⟨y16,rfl⟩;show T X _ _ _;refine T.region ?_;iterate 2 refine aA rfl rfl ?_
  refine TL.nil ?_;obtain rfl:=osi q8;exact⟨m6,Nat.lt_succ_self _,_,Gst.only [2,3,7,8,9] rfl,y16,(w64 (s4.1+1),t15),rfl,i9⟩
 rcases ite_some ht15 with ⟨c17,ht15⟩|⟨c17,ht15⟩
 ·refine T.condF rfl (not_t (c17)) ?_;refine T.skip ?_;obtain rfl:=osi ht15;exact⟨_,gP [2,3,7,8,9] [0] rfl rfl rfl,y3,rfl⟩
 refine T.condT rfl (not_f (eq_false_of_ne_true c17)) ?_;refine T.region ?_;iterate 2 refine aA rfl rfl ?_
 refine TL.op1 (OpR.lit rfl rfl rfl rfl rfl rfl rfl) rfl ?_;obtain⟨x18,hx18,ht15⟩:=bS ht15;refine TL.op (OpR.appendM (m:=[s4.1]) (eI .i64) 0 hx18 rfl rfl rfl rfl rfl rfl rfl rfl rfl (fun _=>rfl)) rfl (fun v19=>?_);refine aA rfl rfl ?_;refine TL.nil ?_;obtain rfl:=osi ht15;exact⟨_,gP [2,3,7,8,9] [0] rfl rfl rfl,v19,rfl⟩
noncomputable def ref16_text (a0:ref08_Row) (a1:Int):Option (List UInt8):=
 bnd (if a1<0 then
 some true
else
 some (decide (a1≥(a0.fCells.length:Int))):Option Bool) fun t1=>
 if t1=true then
 some []
else
 bnd (idx a0.fCells a1) fun x4=>
 some x4.fS
theorem ref16_text_c {a0:ref08_Row} {a1:Int} {res:(List UInt8)} (h0:ref16_text a0 a1=some res):CallF X 110 [.agg [.sl 3 (List.map e_ref07_Cell a0.fCells),dN a0.fEnd,dT a0.fHidden],dN a1] [] (fun x=>.val (.string (bs res))) (fun x=>[]):=by
 unfold ref16_text at h0;refine CallF.mkG (X:=X) rfl Tryz.func110 rfl rfl Tryz.ntmps110 rfl rfl ?_;refine aS ?_;refine TL.op1 (OpR.boxImm rfl rfl) rfl ?_;refine aA rfl rfl ?_;refine aN rfl ?_;refine T.seq ?_;refine T.seq ?_;obtain⟨t1,ht1,h0⟩:=bS h0;refine T.cutC (fun S'=>S'=⟨[(13,(dT t1)),(4,.val (.string (bs []))),(2,.nod [.sl 3 (List.map e_ref07_Cell a0.fCells),dN a0.fEnd,dT a0.fHidden]),(1,(dN a1))],[],20⟩) (fun _ h=>h) ?_ ?_;rotate_left
 ·rintro _ rfl;show T X _ _ _;rcases ite_some h0 with ⟨c3,h0⟩|⟨c3,h0⟩
  ·refine T.condT rfl (c3) ?_;refine aS ?_;refine aA rfl rfl ?_;refine aN rfl ?_;refine T.ret ?_;obtain rfl:=osi h0;exact rO [] [4] rfl undef (cT rfl ResL.nil) rfl rfl rfl rfl
  refine T.condF rfl (eq_false_of_ne_true c3) ?_;refine aK rfl ?_;refine aS ?_;iterate 3 refine aA rfl rfl ?_
  obtain⟨x4,hx4,h0⟩:=bS h0;refine TL.op1 (OpR.indexM e_ref07_Cell hx4 rfl rfl rfl rfl rfl) rfl ?_;iterate 3 refine aA rfl rfl ?_
  refine aN rfl ?_;refine T.ret ?_;obtain rfl:=osi h0;exact rO [] [4] rfl undef (cT rfl ResL.nil) rfl rfl rfl rfl
 refine T.region ?_;iterate 3 refine aA rfl rfl ?_
 rcases ite_some ht1 with ⟨c2,ht1⟩|⟨c2,ht1⟩
 ·refine TL.off rfl rfl rfl rfl (eT c2) rfl rfl ?_;refine TL.off rfl rfl rfl rfl (eT c2) rfl rfl ?_;refine TL.off rfl rfl rfl rfl (eT c2) rfl rfl ?_;refine TL.off rfl rfl rfl rfl (eT c2) rfl rfl ?_;refine TL.off rfl rfl rfl rfl (eT c2) rfl rfl ?_;refine TL.op1 (OpR.pickT rfl (eT c2) rfl) rfl ?_;refine TL.nil ?_;obtain rfl:=osi ht1;exact⟨_,Gst.only [1,2,4,13] rfl,rfl⟩
 refine TL.on rfl rfl rfl rfl (eF c2) ?_;refine aA rfl rfl ?_;refine TL.on rfl rfl rfl rfl (eF c2) ?_;refine aA rfl rfl ?_;refine TL.on rfl rfl rfl rfl (eF c2) ?_;refine aA rfl rfl ?_;refine TL.on rfl rfl rfl rfl (eF c2) ?_;refine TL.op1 (OpR.cast (OpR.pure rfl) (intE (lenM _ _))) rfl ?_;refine TL.on rfl rfl rfl rfl (eF c2) ?_;refine aA rfl rfl ?_;refine TL.op1 (OpR.pickF rfl (eF c2) rfl) rfl ?_;refine TL.nil ?_;obtain rfl:=osi ht1;exact⟨_,Gst.only [1,2,4,13] rfl,rfl⟩
noncomputable def ref02_Digit (a0:UInt8):Option Bool:=
 bnd (if (a0.toNat:Int)≥48 then
 some (decide ((a0.toNat:Int)≤57))
else
 some false:Option Bool) fun t1=>
 some t1
theorem ref02_Digit_c {a0:UInt8} {res:Bool} (h0:ref02_Digit a0=some res):CallF X 217 [.val (.int .u8 (a0.toNat:Int))] [] (fun x=>(dT res)) (fun x=>[]):=by
 unfold ref02_Digit at h0;refine CallF.mkG (X:=X) rfl Tryz.func217 rfl rfl Tryz.ntmps217 rfl rfl ?_;refine aS ?_;refine aA rfl rfl ?_;refine aN rfl ?_;refine T.seq ?_;obtain⟨t1,ht1,h0⟩:=bS h0;refine T.cutC (fun S'=>S'=⟨[(2,(dT t1))],[],9⟩) (fun _ h=>h) ?_ ?_;rotate_left
 ·rintro _ rfl;show T X _ _ _;refine T.ret ?_;obtain rfl:=osi h0;exact rO [] [2] rfl undef (cT rfl ResL.nil) rfl rfl rfl rfl
 refine T.region ?_;iterate 3 refine aA rfl rfl ?_
 rcases ite_some ht1 with ⟨c2,ht1⟩|⟨c2,ht1⟩;rotate_left
 ·refine TL.off rfl rfl rfl rfl (eF c2) rfl rfl ?_;refine TL.off rfl rfl rfl rfl (eF c2) rfl rfl ?_;refine TL.op1 (OpR.pickF rfl (eF c2) rfl) rfl ?_;refine aA rfl rfl ?_;refine TL.nil ?_;obtain rfl:=osi ht1;exact⟨_,Gst.only [2] rfl,rfl⟩
 refine TL.on rfl rfl rfl rfl (eT c2) ?_;refine aA rfl rfl ?_;refine TL.on rfl rfl rfl rfl (eT c2) ?_;refine aA rfl rfl ?_;refine TL.op1 (OpR.pickT rfl (eT c2) rfl) rfl ?_;refine aA rfl rfl ?_;refine TL.nil ?_;obtain rfl:=osi ht1;exact⟨_,Gst.only [2] rfl,rfl⟩
noncomputable def ref02_bare.l1 (s2:(List UInt8)):Option (Lp (List UInt8) (List UInt8)):=
 bnd (if (s2.length:Int)>1 then
 bnd (idx s2 0) fun x12=>
 some ((x12.toNat:Int)==48)
else
 some false:Option Bool) fun t10=>
 if t10=true then
 bnd (cut s2 1 (s2.length:Int)) fun x14=>
 some (Lp.next x14)
else
 some (Lp.done s2)
noncomputable def ref02_bare (a0:List UInt8):Option (List UInt8):=
 bnd (loop ref02_bare.l1 a0:Option (List UInt8)) fun t1=>
 some t1
theorem ref02_bare_c {a0:List UInt8} {res:(List UInt8)} (h0:ref02_bare a0=some res):CallF X 218 [.val (.string (bs a0))] [] (fun x=>.val (.string (bs res))) (fun x=>[]):=by
 unfold ref02_bare at h0;refine CallF.mkG (X:=X) rfl Tryz.func218 rfl rfl Tryz.ntmps218 rfl rfl ?_;refine aS ?_;refine aA rfl rfl ?_;refine aN rfl ?_;refine T.seq ?_;obtain⟨t1,ht1,h0⟩:=bS h0;refine T.cutC (fun S'=>S'=⟨[(2,.val (.string (bs []))),(0,.val (.string (bs t1)))],[],14⟩) (fun _ h=>h) ?_ ?_;rotate_left
 ·rintro _ rfl;show T X _ _ _;refine aS ?_;iterate 2 refine aA rfl rfl ?_
  refine aN rfl ?_;refine T.ret ?_;obtain rfl:=osi h0;exact rO [] [2] rfl undef (cT rfl ResL.nil) rfl rfl rfl rfl
 refine T.block ?_;obtain⟨n3,n8⟩:=loop_some ht1;refine T.loop (fun n S'=>∃ S'',Gst S' S''∧∃ s2:(List UInt8),S''=⟨[(2,.val (.string (bs []))),(0,.val (.string (bs s2)))],[],14⟩∧iter ref02_bare.l1 n s2=some t1) n3 ?_ ?_
 ·exact⟨_,Gst.only [0,2] rfl,a0,rfl,n8⟩
 rintro n3 _ ⟨_,g,s2,rfl,i7⟩;refine T.ghost g ?_;obtain⟨m4,q5,rfl,q6,i7⟩:=iter_succ i7;unfold ref02_bare.l1 at q6;refine T.seq ?_;refine T.seq ?_;obtain⟨t10,ht10,q6⟩:=bS q6;refine T.cutC (fun S'=>S'=⟨[(10,(dT t10)),(2,.val (.string (bs []))),(0,.val (.string (bs s2)))],[],14⟩) (fun _ h=>h) ?_ ?_;rotate_left
 ·rintro _ rfl;show T X _ _ _;rcases ite_some q6 with ⟨c13,q6⟩|⟨c13,q6⟩;rotate_left
  ·refine T.condF rfl (eq_false_of_ne_true c13) ?_;refine T.exit ?_;obtain rfl:=osi q6;obtain rfl:_=_:=i7;exact⟨_,Gst.only [0,2] rfl,rfl⟩
  refine T.condT rfl (c13) ?_;refine aK rfl ?_;refine T.block ?_;refine T.region ?_;refine aA rfl rfl ?_;obtain⟨x14,hx14,q6⟩:=bS q6;refine TL.op1 (OpR.sliceS hx14 rfl rfl rfl (BdM.some rfl) BdM.none) rfl ?_;refine aA rfl rfl ?_;refine TL.nil ?_;obtain rfl:=osi q6;exact⟨m4,Nat.lt_succ_self _,_,Gst.only [0,2] rfl,x14,rfl,i7⟩
 refine T.region ?_;refine aA rfl rfl ?_;refine TL.op1 (OpR.cast (OpR.pure rfl) (intE (lenS _))) rfl ?_;iterate 2 refine aA rfl rfl ?_
 rcases ite_some ht10 with ⟨c11,ht10⟩|⟨c11,ht10⟩;rotate_left
 ·refine TL.off rfl rfl rfl rfl (eF c11) rfl rfl ?_;refine TL.off rfl rfl rfl rfl (eF c11) rfl rfl ?_;refine TL.off rfl rfl rfl rfl (eF c11) rfl rfl ?_;refine TL.op1 (OpR.pickF rfl (eF c11) rfl) rfl ?_;refine TL.nil ?_;obtain rfl:=osi ht10;exact⟨_,Gst.only [0,2,10] rfl,rfl⟩
 refine TL.on rfl rfl rfl rfl (eT c11) ?_;refine aA rfl rfl ?_;refine TL.on rfl rfl rfl rfl (eT c11) ?_;obtain⟨x12,hx12,ht10⟩:=bS ht10;refine TL.op1 (OpR.indexS hx12 rfl rfl rfl rfl) rfl ?_;refine TL.on rfl rfl rfl rfl (eT c11) ?_;refine aA rfl rfl ?_;refine TL.op1 (OpR.pickT rfl (eT c11) rfl) rfl ?_;refine TL.nil ?_;obtain rfl:=osi ht10;exact⟨_,Gst.only [0,2,10] rfl,rfl⟩
noncomputable def ref02_less (a0:List UInt8) (a1:List UInt8):Option Bool:=
 bnd (if (a0.length:Int)<(a1.length:Int) then
 some true
else
 if (a0.length:Int)=(a1.length:Int) then
 some (Op.bytesLess a0 a1)
else
 some false:Option Bool) fun t1=>
 some t1
theorem ref02_less_c {a0:List UInt8} {a1:List UInt8} {res:Bool} (h0:ref02_less a0 a1=some res):CallF X 219 [.val (.string (bs a0)),.val (.string (bs a1))] [] (fun x=>(dT res)) (fun x=>[]):=by
 unfold ref02_less at h0;refine CallF.mkG (X:=X) rfl Tryz.func219 rfl rfl Tryz.ntmps219 rfl rfl ?_;refine aS ?_;refine aA rfl rfl ?_;refine aN rfl ?_;refine T.seq ?_;obtain⟨t1,ht1,h0⟩:=bS h0;refine T.cutC (fun S'=>S'=⟨[(4,(dT t1))],[],22⟩) (fun _ h=>h) ?_ ?_;rotate_left
 ·rintro _ rfl;show T X _ _ _;refine T.ret ?_;obtain rfl:=osi h0;exact rO [] [4] rfl undef (cT rfl ResL.nil) rfl rfl rfl rfl
 refine T.region ?_;refine aA rfl rfl ?_;refine TL.op1 (OpR.cast (OpR.pure rfl) (intE (lenS _))) rfl ?_;refine aA rfl rfl ?_;refine TL.op1 (OpR.cast (OpR.pure rfl) (intE (lenS _))) rfl ?_;iterate 2 refine aA rfl rfl ?_
 rcases ite_some ht1 with ⟨c2,ht1⟩|⟨c2,ht1⟩
 ·refine TL.off rfl rfl rfl rfl (eT c2) rfl rfl ?_;refine TL.off rfl rfl rfl rfl (eT c2) rfl rfl ?_;refine TL.off rfl rfl rfl rfl (eT c2) rfl rfl ?_;refine TL.off rfl rfl rfl rfl (eT c2) rfl rfl ?_;refine TL.off rfl rfl rfl rfl (eT c2) rfl rfl ?_;refine TL.off rfl rfl rfl rfl (eT c2) rfl rfl ?_;refine TL.offU rfl rfl rfl rfl rfl rfl ?_;refine TL.offU rfl rfl rfl rfl rfl rfl ?_;refine TL.offU rfl rfl rfl rfl rfl rfl ?_;refine TL.off rfl rfl rfl rfl (eT c2) rfl rfl ?_;refine TL.op1 (OpR.pickT rfl (eT c2) rfl) rfl ?_;refine aA rfl rfl ?_;refine TL.nil ?_;obtain rfl:=osi ht1;exact⟨_,Gst.only [4] rfl,rfl⟩
 refine TL.on rfl rfl rfl rfl (eF c2) ?_;refine aA rfl rfl ?_;refine TL.on rfl rfl rfl rfl (eF c2) ?_;refine TL.op1 (OpR.cast (OpR.pure rfl) (intE (lenS _))) rfl ?_;refine TL.on rfl rfl rfl rfl (eF c2) ?_;refine aA rfl rfl ?_;refine TL.on rfl rfl rfl rfl (eF c2) ?_;refine TL.op1 (OpR.cast (OpR.pure rfl) (intE (lenS _))) rfl ?_;refine TL.on rfl rfl rfl rfl (eF c2) ?_;refine aA rfl rfl ?_;refine TL.on rfl rfl rfl rfl (eF c2) ?_;refine aA rfl rfl ?_;rcases ite_some ht1 with ⟨c3,ht1⟩|⟨c3,ht1⟩;rotate_left
 ·refine TL.off rfl rfl rfl rfl (beq_eq_false_iff_ne.2 c3) rfl rfl ?_;refine TL.off rfl rfl rfl rfl (beq_eq_false_iff_ne.2 c3) rfl rfl ?_;refine TL.off rfl rfl rfl rfl (beq_eq_false_iff_ne.2 c3) rfl rfl ?_;refine TL.on rfl rfl rfl rfl (eF c2) ?_;refine TL.op1 (OpR.pickF rfl (beq_eq_false_iff_ne.2 c3) rfl) rfl ?_;refine TL.op1 (OpR.pickF rfl (eF c2) rfl) rfl ?_;refine aA rfl rfl ?_;refine TL.nil ?_;obtain rfl:=osi ht1;exact⟨_,Gst.only [4] rfl,rfl⟩
 refine TL.on rfl rfl rfl rfl (beq_iff_eq.2 c3) ?_;refine aA rfl rfl ?_;refine TL.on rfl rfl rfl rfl (beq_iff_eq.2 c3) ?_;refine aA rfl rfl ?_;refine TL.on rfl rfl rfl rfl (beq_iff_eq.2 c3) ?_;refine TL.op1 (OpR.cast (OpR.pure rfl) (boolE (strLt _ _))) rfl ?_;refine TL.on rfl rfl rfl rfl (eF c2) ?_;refine TL.op1 (OpR.pickT rfl (beq_iff_eq.2 c3) rfl) rfl ?_;refine TL.op1 (OpR.pickF rfl (eF c2) rfl) rfl ?_;refine aA rfl rfl ?_;refine TL.nil ?_;obtain rfl:=osi ht1;exact⟨_,Gst.only [4] rfl,rfl⟩
noncomputable def ref02_Parse.l1 (t5:(List UInt8) × Bool) (s12:Int):Option (Lp Int (Ex Unit (Int × Bool))):=
 if s12<(t5.1.length:Int) then
 bnd (idx t5.1 s12) fun x21=>
 bnd (ref02_Digit x21) fun x22=>
 if x22=true then
 some (Lp.next (w64 (s12+1)))
else
 some (Lp.done (Ex.ret (0,false)))
else
 some (Lp.done (Ex.brk ()))
noncomputable def ref02_Parse.l2 (t5:(List UInt8) × Bool) (x24:(List UInt8)) (s30:Int × Int):Option (Lp (Int × Int) Int):=
 if s30.2<(x24.length:Int) then
 bnd (if t5.2=true then
 bnd (idx x24 s30.2) fun x41=>
 some (w64 ((w64 (s30.1*10))-(w64 ((x41.toNat:Int)-48))))
else
 bnd (idx x24 s30.2) fun x42=>
 some (w64 ((w64 ((w64 (s30.1*10))+(x42.toNat:Int)))-48)):Option Int) fun t39=>
 some (Lp.next (t39,w64 (s30.2+1)))
else
 some (Lp.done s30.1)
noncomputable def ref02_Parse (a0:List UInt8):Option (Int × Bool):=
 bnd (if (a0.length:Int)>0 then
 bnd (idx a0 0) fun x3=>
 if (x3.toNat:Int)=43 then
 some true
else
 some ((x3.toNat:Int)==45)
else
 some false:Option Bool) fun t1=>
 bnd (if t1=true then
 bnd (idx a0 0) fun x7=>
 bnd (cut a0 1 (a0.length:Int)) fun x8=>
 some (x8,((x7.toNat:Int)==45))
else
 some (a0,false):Option ((List UInt8) × Bool)) fun t5=>
 if t5.1=[] then
 some (0,false)
else
 bnd (loop (ref02_Parse.l1 t5) 0:Option (Ex Unit (Int × Bool))) fun t10=>match t10 with
| .brk u11=>
 bnd (ref02_bare t5.1) fun x24=>
 bnd (if t5.2=true then
 some [57,50,50,51,51,55,50,48,51,54,56,53,52,55,55,53,56,48,56]
else
 some [57,50,50,51,51,55,50,48,51,54,56,53,52,55,55,53,56,48,55]:Option (List UInt8)) fun t25=>
 bnd (ref02_less t25 x24) fun x27=>
 if x27=true then
 some (0,false)
else
 bnd (loop (ref02_Parse.l2 t5 x24) (0,0):Option Int) fun t29=>
 some (t29,true)
| .ret u11=>some u11
theorem ref02_Parse_c {a0:List UInt8} {res:Int × Bool} (h0:ref02_Parse a0=some res):CallF X 174 [.val (.string (bs a0))] [] (fun x=>.tup [dN res.1,dT res.2]) (fun x=>[]):=by
 unfold ref02_Parse at h0;refine CallF.mkG (X:=X) rfl Tryz.func174 rfl rfl Tryz.ntmps174 rfl rfl ?_;refine aS ?_;iterate 2 refine aA rfl rfl ?_
 refine aN rfl ?_;refine aS ?_;refine aA rfl rfl ?_;refine aN rfl ?_;refine T.seq ?_;refine T.seq ?_;obtain⟨t1,ht1,h0⟩:=bS h0;refine T.cutC (fun S'=>S'=⟨[(21,(dT t1)),(4,(dT false)),(3,(dT false)),(2,(dN 0)),(0,.val (.string (bs a0)))],[],70⟩) (fun _ h=>h) ?_ ?_
 ·refine T.region ?_;refine aA rfl rfl ?_;refine TL.op1 (OpR.cast (OpR.pure rfl) (intE (lenS _))) rfl ?_;iterate 2 refine aA rfl rfl ?_
  rcases ite_some ht1 with ⟨c2,ht1⟩|⟨c2,ht1⟩;rotate_left
  ·refine TL.off rfl rfl rfl rfl (eF c2) rfl rfl ?_;refine TL.off rfl rfl rfl rfl (eF c2) rfl rfl ?_;refine TL.off rfl rfl rfl rfl (eF c2) rfl rfl ?_;refine TL.off rfl rfl rfl rfl (eF c2) rfl rfl ?_;refine TL.offU rfl rfl rfl rfl rfl rfl ?_;refine TL.offU rfl rfl rfl rfl rfl rfl ?_;refine TL.offU rfl rfl rfl rfl rfl rfl ?_;refine TL.off rfl rfl rfl rfl (eF c2) rfl rfl ?_;refine TL.op1 (OpR.pickF rfl (eF c2) rfl) rfl ?_;refine TL.nil ?_;obtain rfl:=osi ht1;exact⟨_,Gst.only [0,2,3,4,21] rfl,rfl⟩
  refine TL.on rfl rfl rfl rfl (eT c2) ?_;refine aA rfl rfl ?_;refine TL.on rfl rfl rfl rfl (eT c2) ?_;obtain⟨x3,hx3,ht1⟩:=bS ht1;refine TL.op1 (OpR.indexS hx3 rfl rfl rfl rfl) rfl ?_;refine TL.on rfl rfl rfl rfl (eT c2) ?_;refine aA rfl rfl ?_;refine TL.on rfl rfl rfl rfl (eT c2) ?_;refine aA rfl rfl ?_;rcases ite_some ht1 with ⟨c4,ht1⟩|⟨c4,ht1⟩
  ·refine TL.off rfl rfl rfl rfl (beq_iff_eq.2 c4) rfl rfl ?_;refine TL.off rfl rfl rfl rfl (beq_iff_eq.2 c4) rfl rfl ?_;refine TL.off rfl rfl rfl rfl (beq_iff_eq.2 c4) rfl rfl ?_;refine TL.on rfl rfl rfl rfl (eT c2) ?_;refine TL.op1 (OpR.pickT rfl (beq_iff_eq.2 c4) rfl) rfl ?_;refine TL.op1 (OpR.pickT rfl (eT c2) rfl) rfl ?_;refine TL.nil ?_;obtain rfl:=osi ht1;exact⟨_,Gst.only [0,2,3,4,21] rfl,rfl⟩
  refine TL.on rfl rfl rfl rfl (beq_eq_false_iff_ne.2 c4) ?_;refine aA rfl rfl ?_;refine TL.on rfl rfl rfl rfl (beq_eq_false_iff_ne.2 c4) ?_;refine TL.op1 (OpR.indexS hx3 rfl rfl rfl rfl) rfl ?_;refine TL.on rfl rfl rfl rfl (beq_eq_false_iff_ne.2 c4) ?_;refine aA rfl rfl ?_;refine TL.on rfl rfl rfl rfl (eT c2) ?_;refine TL.op1 (OpR.pickF rfl (beq_eq_false_iff_ne.2 c4) rfl) rfl ?_;refine TL.op1 (OpR.pickT rfl (eT c2) rfl) rfl ?_;refine TL.nil ?_;obtain rfl:=osi ht1;exact⟨_,Gst.only [0,2,3,4,21] rfl,rfl⟩
 rintro _ rfl;show T X _ _ _;obtain⟨t5,ht5,h0⟩:=bS h0;refine T.cutC (fun S'=>S'=⟨[(4,(dT t5.2)),(3,(dT false)),(2,(dN 0)),(0,.val (.string (bs t5.1)))],[],70⟩) (fun _ h=>h) ?_ ?_
 ·rcases ite_some ht5 with ⟨c6,ht5⟩|⟨c6,ht5⟩;rotate_left
  ·refine T.condF rfl (eq_false_of_ne_true c6) ?_;refine T.skip ?_;obtain rfl:=osi ht5;exact⟨_,Gst.only [0,2,3,4] rfl,rfl⟩
  refine T.condT rfl (c6) ?_;refine aS ?_;refine aA rfl rfl ?_;obtain⟨x7,hx7,ht5⟩:=bS ht5;refine TL.op1 (OpR.indexS hx7 rfl rfl rfl rfl) rfl ?_;iterate 2 refine aA rfl rfl ?_
  refine aN rfl ?_;refine T.region ?_;refine aA rfl rfl ?_;obtain⟨x8,hx8,ht5⟩:=bS ht5;refine TL.op1 (OpR.sliceS hx8 rfl rfl rfl (BdM.some rfl) BdM.none) rfl ?_;refine aA rfl rfl ?_;refine TL.nil ?_;obtain rfl:=osi ht5;exact⟨_,Gst.only [0,2,3,4] rfl,rfl⟩
 rintro _ rfl;show T X _ _ _;refine T.seq ?_;refine aS ?_;refine aA rfl rfl ?_;refine TL.op1 (OpR.cast (OpR.pure rfl) (boolE (strEq _ _))) rfl ?_;refine aN rfl ?_;rcases ite_some h0 with ⟨c9,h0⟩|⟨c9,h0⟩
 ·refine T.condT rfl (beq_iff_eq.2 c9) ?_;refine aS ?_;iterate 2 refine aA rfl rfl ?_
  refine aN rfl ?_;refine T.ret ?_;obtain rfl:=osi h0;exact rO [] [2,3] rfl undef (cT rfl (cT rfl ResL.nil)) rfl rfl rfl rfl
 refine T.condF rfl (beq_eq_false_iff_ne.2 c9) ?_;refine aK rfl ?_;refine T.seq ?_;refine aS ?_;refine aA rfl rfl ?_;refine aN rfl ?_;obtain⟨t10,ht10,h0⟩:=bS h0;refine T.cutC (fun S'=>∃ u11,t10=Ex.brk u11∧S'=⟨[(4,(dT t5.2)),(3,(dT false)),(2,(dN 0)),(0,.val (.string (bs t5.1)))],[],70⟩) (fun _ h=>h) ?_ ?_
 ·refine T.block ?_;obtain⟨n13,n18⟩:=loop_some ht10;refine T.loop (fun n S'=>∃ S'',Gst S' S''∧∃ s12:Int,S''=⟨[(5,(dN s12)),(4,(dT t5.2)),(3,(dT false)),(2,(dN 0)),(0,.val (.string (bs t5.1)))],[],70⟩∧iter (ref02_Parse.l1 t5) n s12=some t10) n13 ?_ ?_
  ·exact⟨_,Gst.only [0,2,3,4,5] rfl,0,rfl,n18⟩
  rintro n13 _ ⟨_,g,s12,rfl,i17⟩;refine T.ghost g ?_;obtain⟨m14,q15,rfl,q16,i17⟩:=iter_succ i17;unfold ref02_Parse.l1 at q16;refine T.seq ?_;refine aS ?_;iterate 2 refine aA rfl rfl ?_
  refine TL.op1 (OpR.cast (OpR.pure rfl) (intE (lenS _))) rfl ?_;refine aA rfl rfl ?_;refine aN rfl ?_;rcases ite_some q16 with ⟨c20,q16⟩|⟨c20,q16⟩;rotate_left
  ·refine T.condF rfl (eF c20) ?_;refine T.exit ?_;obtain rfl:=osi q16;obtain rfl:_=_:=i17;exact⟨_,Gst.only [0,2,3,4] rfl,_,rfl,rfl⟩
  refine T.condT rfl (eT c20) ?_;refine aK rfl ?_;refine T.seq ?_;refine T.block ?_;refine aS ?_;iterate 2 refine aA rfl rfl ?_
  obtain⟨x21,hx21,q16⟩:=bS q16;refine TL.op1 (OpR.indexS hx21 rfl rfl rfl rfl) rfl ?_;obtain⟨x22,hx22,q16⟩:=bS q16;refine TL.op1 (OpR.call0 fn217 (ref02_Digit_c hx22) rfl) rfl ?_;refine aA rfl rfl ?_;refine aN rfl ?_;rcases ite_some q16 with ⟨c23,q16⟩|⟨c23,q16⟩
  ·refine T.condF rfl (not_t (c23)) ?_;refine aK rfl ?_;refine T.region ?_;iterate 3 refine aA rfl rfl ?_
   refine TL.nil ?_;obtain rfl:=osi q16;exact⟨m14,Nat.lt_succ_self _,_,Gst.only [0,2,3,4,5] rfl,w64 (s12+1),rfl,i17⟩
  refine T.condT rfl (not_f (eq_false_of_ne_true c23)) ?_;refine aS ?_;iterate 2 refine aA rfl rfl ?_
  refine aN rfl ?_;refine T.ret ?_;obtain rfl:=osi q16;obtain rfl:_=_:=i17;obtain rfl:=osi h0;exact rO [] [2,3] rfl undef (cT rfl (cT rfl ResL.nil)) rfl rfl rfl rfl
 rintro _ ⟨u11,rfl,rfl⟩;show T X _ _ _;refine aS ?_;refine aA rfl rfl ?_;obtain⟨x24,hx24,h0⟩:=bS h0;refine TL.op1 (OpR.call0 fn218 (ref02_bare_c hx24) rfl) rfl ?_;refine aA rfl rfl ?_;refine aN rfl ?_;refine aS ?_;refine aA rfl rfl ?_;refine aN rfl ?_;refine T.seq ?_;refine aS ?_;refine aA rfl rfl ?_;refine aN rfl ?_;obtain⟨t25,ht25,h0⟩:=bS h0;refine T.cutC (fun S'=>S'=⟨[(6,.val (.string (bs t25))),(4,(dT t5.2)),(3,(dT false)),(2,(dN 0)),(0,.val (.string (bs x24)))],[],70⟩) (fun _ h=>h) ?_ ?_
 ·rcases ite_some ht25 with ⟨c26,ht25⟩|⟨c26,ht25⟩;rotate_left
  ·refine T.condF rfl (eq_false_of_ne_true c26) ?_;refine T.skip ?_;obtain rfl:=osi ht25;exact⟨_,Gst.only [0,2,3,4,6] rfl,rfl⟩
  refine T.condT rfl (c26) ?_;refine T.region ?_;refine aA rfl rfl ?_;refine TL.nil ?_;obtain rfl:=osi ht25;exact⟨_,Gst.only [0,2,3,4,6] rfl,rfl⟩
 rintro _ rfl;show T X _ _ _;refine T.seq ?_;refine aS ?_;iterate 2 refine aA rfl rfl ?_
 obtain⟨x27,hx27,h0⟩:=bS h0;refine TL.op1 (OpR.call0 fn219 (ref02_less_c hx27) rfl) rfl ?_;refine aN rfl ?_;rcases ite_some h0 with ⟨c28,h0⟩|⟨c28,h0⟩
 ·refine T.condT rfl (c28) ?_;refine aS ?_;iterate 2 refine aA rfl rfl ?_
  refine aN rfl ?_;refine T.ret ?_;obtain rfl:=osi h0;exact rO [] [2,3] rfl undef (cT rfl (cT rfl ResL.nil)) rfl rfl rfl rfl
 refine T.condF rfl (eq_false_of_ne_true c28) ?_;refine aK rfl ?_;refine aS ?_;refine aA rfl rfl ?_;refine aN rfl ?_;refine T.seq ?_;refine aS ?_;refine aA rfl rfl ?_;refine aN rfl ?_;obtain⟨t29,ht29,h0⟩:=bS h0;refine T.cutC (fun S'=>S'=⟨[(7,(dN t29)),(3,(dT false)),(2,(dN 0))],[],70⟩) (fun _ h=>h) ?_ ?_;rotate_left
 ·rintro _ rfl;show T X _ _ _;refine aS ?_;iterate 3 refine aA rfl rfl ?_
  refine aN rfl ?_;refine T.ret ?_;obtain rfl:=osi h0;exact rO [] [2,3] rfl undef (cT rfl (cT rfl ResL.nil)) rfl rfl rfl rfl
 refine T.block ?_;obtain⟨n31,n36⟩:=loop_some ht29;refine T.loop (fun n S'=>∃ S'',Gst S' S''∧∃ s30:Int × Int,S''=⟨[(8,(dN s30.2)),(7,(dN s30.1)),(4,(dT t5.2)),(3,(dT false)),(2,(dN 0)),(0,.val (.string (bs x24)))],[],70⟩∧iter (ref02_Parse.l2 t5 x24) n s30=some t29) n31 ?_ ?_
 ·exact⟨_,Gst.only [0,2,3,4,7,8] rfl,(0,0),rfl,n36⟩
 rintro n31 _ ⟨_,g,s30,rfl,i35⟩;refine T.ghost g ?_;obtain⟨m32,q33,rfl,q34,i35⟩:=iter_succ i35;unfold ref02_Parse.l2 at q34;refine T.seq ?_;refine aS ?_;iterate 2 refine aA rfl rfl ?_
 refine TL.op1 (OpR.cast (OpR.pure rfl) (intE (lenS _))) rfl ?_;refine aA rfl rfl ?_;refine aN rfl ?_;rcases ite_some q34 with ⟨c38,q34⟩|⟨c38,q34⟩;rotate_left
 ·refine T.condF rfl (eF c38) ?_;refine T.exit ?_;obtain rfl:=osi q34;obtain rfl:_=_:=i35;exact⟨_,Gst.only [2,3,7] rfl,rfl⟩
 refine T.condT rfl (eT c38) ?_;refine aK rfl ?_;refine T.seq ?_;refine T.block ?_;refine aS ?_;refine aA rfl rfl ?_;refine aN rfl ?_;obtain⟨t39,ht39,q34⟩:=bS q34;refine T.cutC (fun S'=>S'=⟨[(8,(dN s30.2)),(7,(dN t39)),(4,(dT t5.2)),(3,(dT false)),(2,(dN 0)),(0,.val (.string (bs x24)))],[],70⟩) (fun _ h=>h) ?_ ?_;rotate_left
 ·rintro _ rfl;show T X _ _ _;refine T.region ?_;iterate 3 refine aA rfl rfl ?_
  refine TL.nil ?_;obtain rfl:=osi q34;exact⟨m32,Nat.lt_succ_self _,_,Gst.only [0,2,3,4,7,8] rfl,(t39,w64 (s30.2+1)),rfl,i35⟩
 rcases ite_some ht39 with ⟨c40,ht39⟩|⟨c40,ht39⟩
 ·refine T.condT rfl (c40) ?_;refine T.region ?_;iterate 4 refine aA rfl rfl ?_
  obtain⟨x41,hx41,ht39⟩:=bS ht39;refine TL.op1 (OpR.indexS hx41 rfl rfl rfl rfl) rfl ?_;refine TL.op1 (OpR.cast (OpR.pure rfl) (intE (w64_u8 _))) rfl ?_;iterate 3 refine aA rfl rfl ?_
  refine TL.nil ?_;obtain rfl:=osi ht39;exact⟨_,Gst.only [0,2,3,4,7,8] rfl,rfl⟩
 refine T.condF rfl (eq_false_of_ne_true c40) ?_;refine T.region ?_;iterate 4 refine aA rfl rfl ?_
 obtain⟨x42,hx42,ht39⟩:=bS ht39;refine TL.op1 (OpR.indexS hx42 rfl rfl rfl rfl) rfl ?_;refine TL.op1 (OpR.cast (OpR.pure rfl) (intE (w64_u8 _))) rfl ?_;iterate 3 refine aA rfl rfl ?_
 refine TL.nil ?_;obtain rfl:=osi ht39;exact⟨_,Gst.only [0,2,3,4,7,8] rfl,rfl⟩
end Go.Proofs.YtpmhiiemklhbhaaGreat.S
