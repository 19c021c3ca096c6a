import Derived.Test.YtpmhiiemklhbhaaGreatG1xc
import Derived.Test.YtpmhiiemklhbhaaGreatG1xb
import Derived.Test.YtpmhiiemklhbhaaGreatG1xa
set_option maxHeartbeats 4000000
set_option linter.unusedVariables false
set_option linter.unusedSimpArgs false
set_option maxRecDepth 20000
namespace Go.Proofs.YtpmhiiemklhbhaaGreat.S
open Go Go.Sm
attribute [local irreducible] T TL OpR CallT wc loop
noncomputable def yJ.l1 (a0:List (List Int)) (a2:List row_Row) (a3:List order_By) (a4:List UInt8) (s5:Int × (List merge_run_int)):Option (Lp (Int × (List merge_run_int)) (List merge_run_int)):=
 if s5.1<(a0.length:Int) then
 bnd (idx a0 s5.1) fun x14=>
 bnd (if (x14.length:Int)>0 then
 bnd (vj (⟨x14,s5.1⟩:merge_run_int) s5.2 a2 a3 a4) fun x18=>
 some x18
else
 some s5.2:Option (List merge_run_int)) fun t15=>
 some (Lp.next (w64 (s5.1+1),t15))
else
 some (Lp.done s5.2)
noncomputable def yJ.l2 (a1:Int) (a2:List row_Row) (a3:List order_By) (a4:List UInt8) (s24:(List Int) × (List merge_run_int)):Option (Lp ((List Int) × (List merge_run_int)) (List Int)):=
 bnd (bnd (wx s24.2 a2 a3 a4) fun x33=>
 if x33>0 then
 some (decide ((s24.1.length:Int)<a1))
else
 some false:Option Bool) fun t32=>
 if t32=true then
 bnd (idx s24.2 0) fun x36=>
 bnd (idx x36.fRest 0) fun x37=>
 bnd (app 8 s24.1 [x37]) fun x38=>
 bnd (cut x36.fRest 1 (x36.fRest.length:Int)) fun x40=>
 bnd (idx (s24.2.set (0:Int).toNat (⟨x40,x36.fWhich⟩:merge_run_int)) 0) fun x41=>
 if (x41.fRest.length:Int)=0 then
 bnd (vS (s24.2.set (0:Int).toNat (⟨x40,x36.fWhich⟩:merge_run_int)) a2 a3 a4) fun x43=>
 some (Lp.next (x38,x43.2))
else
 bnd (vT 0 (s24.2.set (0:Int).toNat (⟨x40,x36.fWhich⟩:merge_run_int)) a2 a3 a4) fun x45=>
 some (Lp.next (x38,x45))
else
 some (Lp.done s24.1)
noncomputable def yJ (a0:List (List Int)) (a1:Int) (a2:List row_Row) (a3:List order_By) (a4:List UInt8):Option (List Int):=
 bnd (loop (yJ.l1 a0 a2 a3 a4) (0,[]):Option (List merge_run_int)) fun t2=>
 bnd (loop (yJ.l2 a1 a2 a3 a4) ([],t2):Option (List Int)) fun t20=>
 some t20
theorem merge_first_int_c {a0:List (List Int)} {a1:Int} {a2:List row_Row} {a3:List order_By} {a4:List UInt8} {b0:Nat} {b1:Nat} {b2:Nat} {b3:Nat} {b4:Nat} {v5:Value} {res:(List Int)} (h0:yJ a0 a1 a2 a3 a4=some res):zn X 249 [.fn (.func 190) [] [dP b0,dP b1],.sl 1 (List.map sP a0),dN a1] [.var b0 [.fn (.func 170) [] [dP b2,dP b3]] 170,.var b1 [.sl 3 (List.map z8 a2)] 163,.var b2 [.sl 2 (List.map ze a3)] 104,.var b3 [dP b4] 28,.var b4 [.val v5] 264,.row v5 (lB a4) 1 5] (fun x=>.val (vn x 0)) (fun x=>[.var b0 [.fn (.func 170) [] [dP b2,dP b3]] 170,.var b1 [.sl 3 (List.map z8 a2)] 163,.var b2 [.sl 2 (List.map ze a3)] 104,.var b3 [dP b4] 28,.var b4 [.val v5] 264,.row v5 (lB a4) 1 5,.row (vn x 0) (List.map (eI .i64) res) 1 3]):=by
 unfold yJ at h0;refine zg (X:=X) Z Tryz.func249 Z Z Tryz.ntmps249 Z Z ?_;refine aS ?_;refine aA Z Z ?_;refine aN Z ?_;refine aS ?_;refine aA Z Z ?_;refine z6 (OpR.build Z Z Z Z Z) Z ?_;refine TL.op (xK Z Z (fun _=>Z)) Z (fun p1=>?_);refine aA Z Z ?_;refine aN Z ?_;refine T.seq ?_;refine aS ?_;refine aA Z Z ?_;refine z6 (zk (OpR.pure Z) (xh (xX _ _))) Z ?_;refine aA Z Z ?_;refine aN Z ?_;obtain⟨t2,ht2,h0⟩:=bS h0;refine zz (fun S'=>∃ y3:Value,S'=⟨[(7,(dP (blk p1))),(6,.val (.slice none 0 0)),(2,(dN a1))],[.var b0 [.fn (.func 170) [] [dP b2,dP b3]] 170,.var b1 [.sl 3 (List.map z8 a2)] 163,.var b2 [.sl 2 (List.map ze a3)] 104,.var b3 [dP b4] 28,.var b4 [.val v5] 264,.row v5 (lB a4) 1 5,.var (blk p1) [.val y3,.fn (.func 190) [] [dP b0,dP b1]] 355,.row y3 (List.map zl t2) 2 357],77⟩) (fun _ h=>h) ?_ ?_
 ·refine T.block ?_;obtain⟨n6,n11⟩:=zw ht2;refine T.loop (fun n S'=>∃ S'',Gst S' S''∧∃ y4:Value,∃ s5:Int × (List merge_run_int),S''=⟨[(17,(dN s5.1)),(16,(dN (a0.length:Int))),(15,.sl 1 (List.map sP a0)),(7,(dP (blk p1))),(6,.val (.slice none 0 0)),(2,(dN a1))],[.var b0 [.fn (.func 170) [] [dP b2,dP b3]] 170,.var b1 [.sl 3 (List.map z8 a2)] 163,.var b2 [.sl 2 (List.map ze a3)] 104,.var b3 [dP b4] 28,.var b4 [.val v5] 264,.row v5 (lB a4) 1 5,.var (blk p1) [.val y4,.fn (.func 190) [] [dP b0,dP b1]] 355,.row y4 (List.map zl s5.2) 2 357],77⟩∧wc (yJ.l1 a0 a2 a3 a4) n s5=some t2) n6 ?_ ?_
  ·exact⟨_,Gst.trans (Gst.only [2,6,7,15,16,17] Z) (ya (ow:=[.var b0 [.fn (.func 170) [] [dP b2,dP b3]] 170,.var b1 [.sl 3 (List.map z8 a2)] 163,.var b2 [.sl 2 (List.map ze a3)] 104,.var b3 [dP b4] 28,.var b4 [.val v5] 264,.row v5 (lB a4) 1 5,.var (blk p1) [.val (.slice none 0 0),.fn (.func 190) [] [dP b0,dP b1]] 355]) 2 357 Z),(.slice none 0 0),(0,[]),Z,n11⟩
  rintro n6 _ ⟨_,g,y4,s5,rfl,i10⟩;refine T.ghost g ?_;obtain⟨m7,q8,rfl,q9,i10⟩:=zx i10;unfold yJ.l1 at q9;refine aS ?_;refine aA Z Z ?_;refine aN Z ?_;refine T.seq ?_;rcases z9 q9 with ⟨c13,q9⟩|⟨c13,q9⟩;rotate_left
  ·refine zh Z (eF c13) ?_;refine T.exit ?_;obtain rfl:=osi q9;obtain rfl:_=_:=i10;exact⟨_,Gst.only [2,6,7] Z,y4,Z⟩
  refine zi Z (eT c13) ?_;refine aK Z ?_;refine T.seq ?_;refine T.block ?_;refine aS ?_;refine aA Z Z ?_;obtain⟨x14,hx14,q9⟩:=bS q9;refine z6 (zp sP hx14 Z Z Z Z Z) Z ?_;iterate 3 refine aA rfl rfl ?_
  refine aN Z ?_;refine aS ?_;refine aA Z Z ?_;refine z6 (zk (OpR.pure Z) (xh (xX _ _))) Z ?_;refine aA Z Z ?_;refine aN Z ?_;obtain⟨t15,ht15,q9⟩:=bS q9;refine zz (fun S'=>∃ y16:Value,S'=⟨[(17,(dN s5.1)),(16,(dN (a0.length:Int))),(15,.sl 1 (List.map sP a0)),(7,(dP (blk p1))),(6,.val (.slice none 0 0)),(2,(dN a1))],[.var b0 [.fn (.func 170) [] [dP b2,dP b3]] 170,.var b1 [.sl 3 (List.map z8 a2)] 163,.var b2 [.sl 2 (List.map ze a3)] 104,.var b3 [dP b4] 28,.var b4 [.val v5] 264,.row v5 (lB a4) 1 5,.var (blk p1) [.val y16,.fn (.func 190) [] [dP b0,dP b1]] 355,.row y16 (List.map zl t15) 2 357],77⟩) (fun _ h=>h) ?_ ?_;rotate_left
  ·rintro _ ⟨y16,rfl⟩;show T X _ _ _;refine T.region ?_;iterate 2 refine aA rfl rfl ?_
   refine TL.nil ?_;obtain rfl:=osi q9;exact⟨m7,Nat.lt_succ_self _,_,Gst.only [2,6,7,15,16,17] Z,y16,(w64 (s5.1+1),t15),Z,i10⟩
  rcases z9 ht15 with ⟨c17,ht15⟩|⟨c17,ht15⟩;rotate_left
  ·refine zh Z (eF c17) ?_;refine T.skip ?_;obtain rfl:=osi ht15;exact⟨_,Gst.only [2,6,7,15,16,17] Z,y4,Z⟩
  refine zi Z (eT c17) ?_;refine T.region ?_;refine aA Z Z ?_;refine z6 (uw Z Z Z) Z ?_;iterate 2 refine aA rfl rfl ?_
  refine z6 (OpR.build Z Z Z Z Z) Z ?_;refine z6 (uw Z Z Z) Z ?_;obtain⟨x18,hx18,ht15⟩:=bS ht15;refine TL.op (OpR.call [6,7,0,1,2,3,4,5] fn241 (rM hx18) Z Z Z (fun _=>Z)) Z (fun w19=>?_);refine TL.nil ?_;obtain rfl:=osi ht15;exact⟨_,Gst.only [2,6,7,15,16,17] Z,(vn w19 0),Z⟩
 rintro _ ⟨y3,rfl⟩;show T X _ _ _;refine aS ?_;refine aA Z Z ?_;refine aN Z ?_;refine T.seq ?_;obtain⟨t20,ht20,h0⟩:=bS h0;refine zz (fun S'=>∃ y21:Value,S'=⟨[(10,.val y21),(6,.val (.slice none 0 0))],[.var b0 [.fn (.func 170) [] [dP b2,dP b3]] 170,.var b1 [.sl 3 (List.map z8 a2)] 163,.var b2 [.sl 2 (List.map ze a3)] 104,.var b3 [dP b4] 28,.var b4 [.val v5] 264,.row v5 (lB a4) 1 5,.row y21 (List.map (eI .i64) t20) 1 3],77⟩) (fun _ h=>h) ?_ ?_;rotate_left
 ·rintro _ ⟨y21,rfl⟩;show T X _ _ _;refine aS ?_;iterate 2 refine aA rfl rfl ?_
  refine aN Z ?_;refine T.ret ?_;obtain rfl:=osi h0;exact rO [0,1,2,3,4,5,6] [6] Z (.tuple #[y21]) (cT Z ResL.nil) Z Z Z Z
 refine T.block ?_;obtain⟨n25,n30⟩:=zw ht20;refine T.loop (fun n S'=>∃ S'',Gst S' S''∧∃ y22:Value,∃ y23:Value,∃ s24:(List Int) × (List merge_run_int),S''=⟨[(10,.val y22),(7,(dP (blk p1))),(6,.val (.slice none 0 0)),(2,(dN a1))],[.var b0 [.fn (.func 170) [] [dP b2,dP b3]] 170,.var b1 [.sl 3 (List.map z8 a2)] 163,.var b2 [.sl 2 (List.map ze a3)] 104,.var b3 [dP b4] 28,.var b4 [.val v5] 264,.row v5 (lB a4) 1 5,.var (blk p1) [.val y23,.fn (.func 190) [] [dP b0,dP b1]] 355,.row y22 (List.map (eI .i64) s24.1) 1 3,.row y23 (List.map zl s24.2) 2 357],77⟩∧wc (yJ.l2 a1 a2 a3 a4) n s24=some t20) n25 ?_ ?_
 ·exact⟨_,Gst.trans (Gst.only [2,6,7,10] Z) (Gst.trans (ya (ow:=[.var b0 [.fn (.func 170) [] [dP b2,dP b3]] 170,.var b1 [.sl 3 (List.map z8 a2)] 163,.var b2 [.sl 2 (List.map ze a3)] 104,.var b3 [dP b4] 28,.var b4 [.val v5] 264,.row v5 (lB a4) 1 5,.var (blk p1) [.val y3,.fn (.func 190) [] [dP b0,dP b1]] 355,.row y3 (List.map zl t2) 2 357]) 1 3 Z) (Gst.pick [0,1,2,3,4,5,6,8,7] Z Z)),(.slice none 0 0),y3,([],t2),Z,n30⟩
 rintro n25 _ ⟨_,g,y22,y23,s24,rfl,i29⟩;refine T.ghost g ?_;obtain⟨m26,q27,rfl,q28,i29⟩:=zx i29;unfold yJ.l2 at q28;refine T.seq ?_;refine T.seq ?_;obtain⟨t32,ht32,q28⟩:=bS q28;refine zz (fun S'=>S'=⟨[(41,(dT t32)),(10,.val y22),(7,(dP (blk p1))),(6,.val (.slice none 0 0)),(2,(dN a1))],[.var b0 [.fn (.func 170) [] [dP b2,dP b3]] 170,.var b1 [.sl 3 (List.map z8 a2)] 163,.var b2 [.sl 2 (List.map ze a3)] 104,.var b3 [dP b4] 28,.var b4 [.val v5] 264,.row v5 (lB a4) 1 5,.var (blk p1) [.val y23,.fn (.func 190) [] [dP b0,dP b1]] 355,.row y22 (List.map (eI .i64) s24.1) 1 3,.row y23 (List.map zl s24.2) 2 357],77⟩) (fun _ h=>h) ?_ ?_
 ·refine T.region ?_;refine aA Z Z ?_;obtain⟨x33,hx33,ht32⟩:=bS ht32;refine z6 (OpR.call [6,8,0,1,2,3,4,5] fn268 (vu hx33) Z Z Z (fun _=>Z)) Z ?_;iterate 2 refine aA rfl rfl ?_
  rcases z9 ht32 with ⟨c34,ht32⟩|⟨c34,ht32⟩;rotate_left
  ·refine TL.off Z Z Z Z (eF c34) Z Z ?_;refine TL.off Z Z Z Z (eF c34) Z Z ?_;refine TL.off Z Z Z Z (eF c34) Z Z ?_;refine TL.off Z Z Z Z (eF c34) Z Z ?_;refine z6 (zu Z (eF c34) Z) Z ?_;refine TL.nil ?_;obtain rfl:=osi ht32;exact⟨_,Gst.only [2,6,7,10,41] Z,Z⟩
  refine TL.on Z Z Z Z (eT c34) ?_;refine aA Z Z ?_;refine TL.on Z Z Z Z (eT c34) ?_;refine z6 (yz (eI .i64) 7 Z Z Z Z) Z ?_;refine TL.on Z Z Z Z (eT c34) ?_;refine aA Z Z ?_;refine TL.on Z Z Z Z (eT c34) ?_;refine aA Z Z ?_;refine z6 (zt Z (eT c34) Z) Z ?_;refine TL.nil ?_;obtain rfl:=osi ht32;exact⟨_,Gst.only [2,6,7,10,41] Z,Z⟩
 rintro _ rfl;show T X _ _ _;rcases z9 q28 with ⟨c35,q28⟩|⟨c35,q28⟩;rotate_left
 ·refine zh Z (eN c35) ?_;refine T.exit ?_;obtain rfl:=osi q28;obtain rfl:_=_:=i29;exact⟨_,gP [6,10] [0,1,2,3,4,5,7] Z Z Z,y22,Z⟩
 refine zi Z (c35) ?_;refine aK Z ?_;refine T.block ?_;refine aS ?_;iterate 3 refine aA rfl rfl ?_
 refine z6 (z7 6 Z Z Z Z) Z ?_;obtain⟨x36,hx36,q28⟩:=bS q28;refine z6 (zK zl 8 hx36 Z Z Z Z Z Z Z) Z ?_;refine aA Z Z ?_;refine aN Z ?_;refine aS ?_;iterate 4 refine aA rfl rfl ?_
 refine z6 (zJ (j:=0) zl 8 hx36 Z Z Z Z) Z ?_;obtain⟨x37,hx37,q28⟩:=bS q28;refine z6 (zp (eI .i64) hx37 Z Z Z Z Z) Z ?_;refine aA Z Z ?_;refine z6 (yC Z Z Z Z Z Z Z) Z ?_;obtain⟨x38,hx38,q28⟩:=bS q28;refine TL.op (zH (m:=[x37]) (eI .i64) 7 hx38 Z Z Z Z Z Z Z Z Z (fun _=>Z)) Z (fun v39=>?_);refine aA Z Z ?_;refine aN Z ?_;refine T.seq ?_;refine aS ?_;iterate 4 refine aA rfl rfl ?_
 refine z6 (zJ (j:=0) zl 8 hx36 Z Z Z Z) Z ?_;obtain⟨x40,hx40,q28⟩:=bS q28;refine z6 (wO (sz:=1) (eI .i64) hx40 Z Z Z Z (BdM.some Z) BdM.none Z) Z ?_;iterate 2 refine aA rfl rfl ?_
 refine zy (yA (j:=0) zl (⟨x40,x36.fWhich⟩:merge_run_int) 8 hx36 Z Z Z Z Z Z Z Z Z) ?_;refine aN Z ?_;refine aS ?_;iterate 3 refine aA rfl rfl ?_
 obtain⟨x41,hx41,q28⟩:=bS q28;refine z6 (zJ (j:=0) zl 8 hx41 Z Z Z Z) Z ?_;refine z6 (zk (OpR.pure Z) (xh (xX _ _))) Z ?_;refine aA Z Z ?_;refine aN Z ?_;rcases z9 q28 with ⟨c42,q28⟩|⟨c42,q28⟩;rotate_left
 ·refine zh Z (beq_eq_false_iff_ne.2 c42) ?_;refine aK Z ?_;refine T.region ?_;refine aA Z Z ?_;refine z6 (uw Z Z Z) Z ?_;obtain⟨x45,hx45,q28⟩:=bS q28;refine z6 (OpR.call [6,8,0,1,2,3,4,5] fn244 (qR hx45) Z Z Z (fun _=>Z)) Z ?_;refine TL.nil ?_;obtain rfl:=osi q28;exact⟨m26,Nat.lt_succ_self _,_,Gst.only [2,6,7,10] Z,v39,y23,(x38,x45),Z,i29⟩
 refine zi Z (beq_iff_eq.2 c42) ?_;refine aS ?_;refine aA Z Z ?_;refine z6 (uw Z Z Z) Z ?_;obtain⟨x43,hx43,q28⟩:=bS q28;refine TL.op (OpR.call [6,8,0,1,2,3,4,5] fn243 (qQ hx43) Z Z Z (fun _=>Z)) Z (fun w44=>?_);refine aN Z ?_;refine T.exit ?_;obtain rfl:=osi q28;exact⟨m26,Nat.lt_succ_self _,_,Gst.only [2,6,7,10] Z,v39,(vn w44 0),(x38,x43.2),Z,i29⟩
noncomputable def td (a0:List (List Int)) (a1:List row_Row) (a2:List order_By) (a3:List UInt8):Option (List Int):=
 bnd (xT a0) fun x1=>
 bnd (yJ a0 x1 a1 a2 a3) fun x2=>
 some x2
theorem merge_Merge_int_c {a0:List (List Int)} {a1:List row_Row} {a2:List order_By} {a3:List UInt8} {b0:Nat} {b1:Nat} {b2:Nat} {b3:Nat} {b4:Nat} {v5:Value} {res:(List Int)} (h0:td a0 a1 a2 a3=some res):zn X 223 [.fn (.func 190) [] [dP b0,dP b1],.sl 1 (List.map sP a0)] [.var b0 [.fn (.func 170) [] [dP b2,dP b3]] 170,.var b1 [.sl 3 (List.map z8 a1)] 163,.var b2 [.sl 2 (List.map ze a2)] 104,.var b3 [dP b4] 28,.var b4 [.val v5] 264,.row v5 (lB a3) 1 5] (fun x=>.val (vn x 0)) (fun x=>[.var b0 [.fn (.func 170) [] [dP b2,dP b3]] 170,.var b1 [.sl 3 (List.map z8 a1)] 163,.var b2 [.sl 2 (List.map ze a2)] 104,.var b3 [dP b4] 28,.var b4 [.val v5] 264,.row v5 (lB a3) 1 5,.row (vn x 0) (List.map (eI .i64) res) 1 3]):=by
 unfold td at h0;refine zg (X:=X) Z Tryz.func223 Z Z Tryz.ntmps223 Z Z ?_;refine aS ?_;refine aA Z Z ?_;refine aN Z ?_;refine aS ?_;iterate 3 refine aA rfl rfl ?_
 obtain⟨x1,hx1,h0⟩:=bS h0;refine z6 (zf fn250 (merge_count_int_c hx1) Z) Z ?_;obtain⟨x2,hx2,h0⟩:=bS h0;refine TL.op (OpR.call [0,1,2,3,4,5] fn249 (merge_first_int_c hx2) Z Z Z (fun _=>Z)) Z (fun w3=>?_);refine aA Z Z ?_;refine aN Z ?_;refine T.ret ?_;obtain rfl:=osi h0;exact rO [0,1,2,3,4,5,6] [4] Z (.tuple #[(vn w3 0)]) (cT Z ResL.nil) Z Z Z Z
noncomputable def tI (a0:List Int) (a1:List row_Row) (a2:List order_By) (a3:List UInt8):Option (List Int):=
 bnd (wo a0 a1 a2 a3) fun x1=>
 bnd (td x1 a1 a2 a3) fun x2=>
 some x2
theorem merge_Sort_int_c {a0:List Int} {a1:List row_Row} {a2:List order_By} {a3:List UInt8} {v0:Value} {b1:Nat} {b2:Nat} {b3:Nat} {b4:Nat} {b5:Nat} {v6:Value} {res:(List Int)} (h0:tI a0 a1 a2 a3=some res):zn X 189 [.val v0,.fn (.func 190) [] [dP b1,dP b2]] [.row v0 (List.map (eI .i64) a0) 1 3,.var b1 [.fn (.func 170) [] [dP b3,dP b4]] 170,.var b2 [.sl 3 (List.map z8 a1)] 163,.var b3 [.sl 2 (List.map ze a2)] 104,.var b4 [dP b5] 28,.var b5 [.val v6] 264,.row v6 (lB a3) 1 5] (fun x=>.val (vn x 0)) (fun x=>[.row v0 (List.map (eI .i64) a0) 1 3,.var b1 [.fn (.func 170) [] [dP b3,dP b4]] 170,.var b2 [.sl 3 (List.map z8 a1)] 163,.var b3 [.sl 2 (List.map ze a2)] 104,.var b4 [dP b5] 28,.var b5 [.val v6] 264,.row v6 (lB a3) 1 5,.row (vn x 0) (List.map (eI .i64) res) 1 3]):=by
 unfold tI at h0;refine zg (X:=X) Z Tryz.func189 Z Z Tryz.ntmps189 Z Z ?_;refine aS ?_;refine aA Z Z ?_;refine aN Z ?_;refine aS ?_;iterate 3 refine aA rfl rfl ?_
 obtain⟨x1,hx1,h0⟩:=bS h0;refine z6 (OpR.call [0,1,2,3,4,5,6] fn224 (merge_Runs_int_c hx1) Z Z Z (fun _=>Z)) Z ?_;obtain⟨x2,hx2,h0⟩:=bS h0;refine TL.op (OpR.call [1,2,3,4,5,6] fn223 (merge_Merge_int_c hx2) Z Z Z (fun _=>Z)) Z (fun w3=>?_);refine aA Z Z ?_;refine aN Z ?_;refine T.ret ?_;obtain rfl:=osi h0;exact rO [0,1,2,3,4,5,6,7] [4] Z (.tuple #[(vn w3 0)]) (cT Z ResL.nil) Z Z Z Z
noncomputable def yr.l1 (x3:List Int) (s6:Int × (List Int)):Option (Lp (Int × (List Int)) (List Int)):=
 if s6.1<(x3.length:Int) then
 bnd (idx s6.2 s6.1) fun x15=>
 some (Lp.next (w64 (s6.1+1),(s6.2.set s6.1.toNat s6.1)))
else
 some (Lp.done s6.2)
noncomputable def yr (a0:List row_Row) (a1:List order_By) (a2:List UInt8):Option (List Int):=
 bnd (mkz 8 (a0.length:Int) (0:Int)) fun x3=>
 bnd (loop (yr.l1 x3) (0,x3):Option (List Int)) fun t5=>
 bnd (tI t5 a0 a1 a2) fun x16=>
 some x16
theorem qP {a0:List row_Row} {a1:List order_By} {a2:List UInt8} {b0:Nat} {b1:Nat} {b2:Nat} {v3:Value} {res:(List Int)} (h0:yr a0 a1 a2=some res):zn X 126 [.sl 3 (List.map z8 a0),.fn (.func 170) [] [dP b0,dP b1]] [.var b0 [.sl 2 (List.map ze a1)] 104,.var b1 [dP b2] 28,.var b2 [.val v3] 264,.row v3 (lB a2) 1 5] (fun x=>.val (vn x 0)) (fun x=>[.var b0 [.sl 2 (List.map ze a1)] 104,.var b1 [dP b2] 28,.var b2 [.val v3] 264,.row v3 (lB a2) 1 5,.row (vn x 0) (List.map (eI .i64) res) 1 3]):=by
 unfold yr at h0;refine zg (X:=X) Z Tryz.func126 Z Z Tryz.ntmps126 Z Z ?_;refine aS ?_;refine TL.op (xK Z Z (fun _=>Z)) Z (fun p1=>?_);refine TL.op (xK Z Z (fun _=>Z)) Z (fun p2=>?_);refine aA Z Z ?_;refine aN Z ?_;refine aS ?_;refine z6 (z7 4 Z Z Z Z) Z ?_;refine z6 (zk (OpR.pure Z) (xh (xX _ _))) Z ?_;obtain⟨x3,hx3,h0⟩:=bS h0;refine TL.op (ql (eI .i64) hx3 Z Z Z Z Z Z Z Z Z Z Z (fun _=>Z)) Z (fun v4=>?_);refine aA Z Z ?_;refine aN Z ?_;refine T.seq ?_;refine aS ?_;refine aA Z Z ?_;refine z6 (yz (eI .i64) 6 Z Z Z Z) Z ?_;refine aA Z Z ?_;refine aN Z ?_;obtain⟨t5,ht5,h0⟩:=bS h0;refine zz (fun S'=>S'=⟨[(5,.val v4),(4,.val (.slice none 0 0)),(3,(dP (blk p2))),(2,(dP (blk p1)))],[.var b0 [.sl 2 (List.map ze a1)] 104,.var b1 [dP b2] 28,.var b2 [.val v3] 264,.row v3 (lB a2) 1 5,.var (blk p1) [.sl 3 (List.map z8 a0)] 163,.var (blk p2) [.fn (.func 170) [] [dP b0,dP b1]] 170,.row v4 (List.map (eI .i64) t5) 1 3],23⟩) (fun _ h=>h) ?_ ?_;rotate_left
 ·rintro _ rfl;show T X _ _ _;refine aS ?_;iterate 2 refine aA rfl rfl ?_
  obtain⟨x16,hx16,h0⟩:=bS h0;refine TL.op (OpR.call [6,5,4,0,1,2,3] fn189 (merge_Sort_int_c hx16) Z Z Z (fun _=>Z)) Z (fun w17=>?_);refine aA Z Z ?_;refine aN Z ?_;refine T.ret ?_;obtain rfl:=osi h0;exact rP [0,1,2,3,4] [4] [0,1,2,3,7] Z Z Z (.tuple #[(vn w17 0)]) (cT Z ResL.nil) Z Z Z Z
 refine T.block ?_;obtain⟨n7,n12⟩:=zw ht5;refine T.loop (fun n S'=>∃ S'',Gst S' S''∧∃ s6:Int × (List Int),S''=⟨[(12,(dN s6.1)),(11,(dN (x3.length:Int))),(5,.val v4),(4,.val (.slice none 0 0)),(3,(dP (blk p2))),(2,(dP (blk p1)))],[.var b0 [.sl 2 (List.map ze a1)] 104,.var b1 [dP b2] 28,.var b2 [.val v3] 264,.row v3 (lB a2) 1 5,.var (blk p1) [.sl 3 (List.map z8 a0)] 163,.var (blk p2) [.fn (.func 170) [] [dP b0,dP b1]] 170,.row v4 (List.map (eI .i64) s6.2) 1 3],23⟩∧wc (yr.l1 x3) n s6=some t5) n7 ?_ ?_
 ·exact⟨_,Gst.only [2,3,4,5,11,12] Z,(0,x3),Z,n12⟩
 rintro n7 _ ⟨_,g,s6,rfl,i11⟩;refine T.ghost g ?_;obtain⟨m8,q9,rfl,q10,i11⟩:=zx i11;unfold yr.l1 at q10;refine aS ?_;refine aA Z Z ?_;refine aN Z ?_;refine T.seq ?_;rcases z9 q10 with ⟨c14,q10⟩|⟨c14,q10⟩;rotate_left
 ·refine zh Z (eF c14) ?_;refine T.exit ?_;obtain rfl:=osi q10;obtain rfl:_=_:=i11;exact⟨_,Gst.only [2,3,4,5] Z,Z⟩
 refine zi Z (eT c14) ?_;refine aK Z ?_;refine T.seq ?_;refine T.block ?_;refine aS ?_;iterate 2 refine aA rfl rfl ?_
 refine aN Z ?_;refine T.region ?_;iterate 3 refine aA rfl rfl ?_
 obtain⟨x15,hx15,q10⟩:=bS q10;refine z6 (zK (eI .i64) 6 hx15 Z Z Z Z Z Z Z) Z ?_;refine zy (yA (j:=s6.1) (eI .i64) s6.1 6 hx15 Z Z Z Z Z Z Z Z Z) ?_;refine aN Z ?_;refine T.region ?_;iterate 2 refine aA rfl rfl ?_
 refine TL.nil ?_;obtain rfl:=osi q10;exact⟨m8,Nat.lt_succ_self _,_,Gst.only [2,3,4,5,11,12] Z,(w64 (s6.1+1),(s6.2.set s6.1.toNat s6.1)),Z,i11⟩
noncomputable def xY.l1 (x3:(List row_Row) × (List Int)) (x6:(List Int)) (s9:Int × (List Int)):Option (Lp (Int × (List Int)) (List Int)):=
 if s9.1<(x6.length:Int) then
 bnd (idx s9.2 s9.1) fun x18=>
 bnd (idx x3.2 x18) fun x19=>
 some (Lp.next (w64 (s9.1+1),(s9.2.set s9.1.toNat x19)))
else
 some (Lp.done s9.2)
noncomputable def xY (a0:grid_Grid) (a1:List order_By) (a2:List UInt8):Option (List Int):=
 bnd (vY a1) fun x1=>
 if x1=true then
 bnd (yX a0) fun x3=>
 bnd (vk a1 a2) fun x4=>
 bnd (yr x3.1 x4 a2) fun x6=>
 bnd (loop (xY.l1 x3 x6) (0,x6):Option (List Int)) fun t8=>
 some t8
else
 some []
theorem uK {a0:grid_Grid} {a1:List order_By} {a2:List UInt8} {b0:Nat} {v1:Value} {res:(List Int)} (h0:xY a0 a1 a2=some res):zn X 59 [.agg [(eOP a0.fRows.fRoot),dT a0.fTail,dN a0.fEnd],dP b0,.sl 2 (List.map ze a1)] [.var b0 [.val v1] 264,.row v1 (lB a2) 1 5] (fun x=>.sl 1 (List.map (eI .i64) res)) (fun x=>[.var b0 [.val v1] 264,.row v1 (lB a2) 1 5]):=by
 unfold xY at h0;refine zg (X:=X) Z Tryz.func59 Z Z Tryz.ntmps59 Z Z ?_;refine aS ?_;refine z6 (zD Z Z) Z ?_;refine aA Z Z ?_;refine aN Z ?_;refine T.seq ?_;refine aS ?_;refine aA Z Z ?_;obtain⟨x1,hx1,h0⟩:=bS h0;refine z6 (zf fn56 (wF hx1) Z) Z ?_;refine aA Z Z ?_;refine aN Z ?_;rcases z9 h0 with ⟨c2,h0⟩|⟨c2,h0⟩;rotate_left
 ·refine zi Z (yd (eN c2)) ?_;refine aS ?_;refine aA Z Z ?_;refine aN Z ?_;refine T.ret ?_;obtain rfl:=osi h0;exact zC (ks:=[0,1]) (Gst.trans (Gst.only [6] Z) (Gst.denil (ReS.cons (Re.base .nil) ReS.nil) (ReO.var (ReL.cons Re.refl ReL.nil) (ReO.same ReO.nil)))) undef (cT Z ResL.nil) Z Z Z Z
 refine zh Z (zS (c2)) ?_;refine aK Z ?_;refine aS ?_;refine aA Z Z ?_;obtain⟨x3,hx3,h0⟩:=bS h0;refine z6 (zf fn104 (sG hx3) Z) Z ?_;iterate 5 refine aA rfl rfl ?_
 refine aN Z ?_;refine aS ?_;iterate 3 refine aA rfl rfl ?_
 obtain⟨x4,hx4,h0⟩:=bS h0;refine TL.op (OpR.call [0,1] fn105 (tV hx4) Z Z Z (fun _=>Z)) Z (fun w5=>?_);obtain⟨x6,hx6,h0⟩:=bS h0;refine TL.op (OpR.call [2,3,0,1] fn126 (qP hx6) Z Z Z (fun _=>Z)) Z (fun w7=>?_);refine aA Z Z ?_;refine aN Z ?_;refine T.seq ?_;refine aS ?_;refine aA Z Z ?_;refine z6 (yz (eI .i64) 4 Z Z Z Z) Z ?_;refine aA Z Z ?_;refine aN Z ?_;obtain⟨t8,ht8,h0⟩:=bS h0;refine zz (fun S'=>S'=⟨[(9,.val (vn w7 0)),(6,.val (.slice none 0 0))],[.var b0 [.val v1] 264,.row v1 (lB a2) 1 5,.row (vn w7 0) (List.map (eI .i64) t8) 1 3],41⟩) (fun _ h=>h) ?_ ?_;rotate_left
 ·rintro _ rfl;show T X _ _ _;refine aS ?_;iterate 2 refine aA rfl rfl ?_
  refine aN Z ?_;refine T.ret ?_;obtain rfl:=osi h0;exact zC (ks:=[0,1]) (Gst.trans (Gst.only [6] Z) (Gst.trans (zA 2 Z Z (ReS.cons (Re.base .all) ReS.nil) (ReO.same (ReO.same (ReO.same ReO.nil)))) (Gst.pick [0,1] Z Z))) undef (cT Z ResL.nil) Z Z Z Z
 refine T.block ?_;obtain⟨n10,n15⟩:=zw ht8;refine T.loop (fun n S'=>∃ S'',Gst S' S''∧∃ s9:Int × (List Int),S''=⟨[(27,(dN s9.1)),(26,(dN (x6.length:Int))),(25,.val (vn w7 0)),(9,.val (vn w7 0)),(8,.sl 1 (List.map (eI .i64) x3.2)),(6,.val (.slice none 0 0))],[.var b0 [.val v1] 264,.row v1 (lB a2) 1 5,.row (vn w7 0) (List.map (eI .i64) s9.2) 1 3],41⟩∧wc (xY.l1 x3 x6) n s9=some t8) n10 ?_ ?_
 ·exact⟨_,gP [6,8,9,25,26,27] [0,1,4] Z Z Z,(0,x6),Z,n15⟩
 rintro n10 _ ⟨_,g,s9,rfl,i14⟩;refine T.ghost g ?_;obtain⟨m11,q12,rfl,q13,i14⟩:=zx i14;unfold xY.l1 at q13;refine aS ?_;refine aA Z Z ?_;refine aN Z ?_;refine T.seq ?_;rcases z9 q13 with ⟨c17,q13⟩|⟨c17,q13⟩;rotate_left
 ·refine zh Z (eF c17) ?_;refine T.exit ?_;obtain rfl:=osi q13;obtain rfl:_=_:=i14;exact⟨_,Gst.only [6,9] Z,Z⟩
 refine zi Z (eT c17) ?_;refine aK Z ?_;refine T.seq ?_;refine T.block ?_;refine aS ?_;refine aA Z Z ?_;obtain⟨x18,hx18,q13⟩:=bS q13;refine z6 (zK (eI .i64) 2 hx18 Z Z Z Z Z Z Z) Z ?_;refine z6 (zJ (j:=s9.1) (eI .i64) 2 hx18 Z Z Z Z) Z ?_;iterate 2 refine aA rfl rfl ?_
 refine aN Z ?_;refine T.region ?_;iterate 4 refine aA rfl rfl ?_
 obtain⟨x19,hx19,q13⟩:=bS q13;refine z6 (zp (eI .i64) hx19 Z Z Z Z Z) Z ?_;refine aA Z Z ?_;refine z6 (zK (eI .i64) 2 hx18 Z Z Z Z Z Z Z) Z ?_;refine zy (yA (j:=s9.1) (eI .i64) x19 2 hx18 Z Z Z Z Z Z Z Z Z) ?_;refine aN Z ?_;refine T.region ?_;iterate 2 refine aA rfl rfl ?_
 refine TL.nil ?_;obtain rfl:=osi q13;exact⟨m11,Nat.lt_succ_self _,_,Gst.only [6,8,9,25,26,27] Z,(w64 (s9.1+1),(s9.2.set s9.1.toNat x19)),Z,i14⟩
noncomputable def xC.l1 (a0:Int) (a1:List Int) (s5:Int × (List Bool)):Option (Lp (Int × (List Bool)) (Ex (List Bool) ((List Bool) × Bool))):=
 if s5.1<(a1.length:Int) then
 bnd (idx a1 s5.1) fun x14=>
 bnd (if x14<0 then
 some true
else
 if x14≥a0 then
 some true
else
 bnd (idx s5.2 x14) fun x18=>
 some x18:Option Bool) fun t15=>
 if t15=true then
 some (Lp.done (Ex.ret ([],false)))
else
 bnd (idx s5.2 x14) fun x20=>
 some (Lp.next (w64 (s5.1+1),(s5.2.set x14.toNat true)))
else
 some (Lp.done (Ex.brk s5.2))
noncomputable def xC (a0:Int) (a1:List Int):Option ((List Bool) × Bool):=
 bnd (mkz 1 a0 (false:Bool)) fun x1=>
 bnd (loop (xC.l1 a0 a1) (0,x1):Option (Ex (List Bool) ((List Bool) × Bool))) fun t3=>match t3 with
| .brk u4=>
 some (u4,true)
| .ret u4=>some u4
theorem pH {a0:Int} {a1:List Int} {res:(List Bool) × Bool} (h0:xC a0 a1=some res):zn X 98 [dN a0,.sl 1 (List.map (eI .i64) a1)] [] (fun x=>.tup [.sl 1 (List.map eB res.1),dT res.2]) (fun x=>[]):=by
 unfold xC at h0;refine zg (X:=X) Z Tryz.func98 Z Z Tryz.ntmps98 Z Z ?_;refine aS ?_;iterate 2 refine aA rfl rfl ?_
 refine aN Z ?_;refine aS ?_;refine aA Z Z ?_;obtain⟨x1,hx1,h0⟩:=bS h0;refine TL.op (ql eB hx1 Z Z Z Z Z Z Z Z Z Z Z (fun _=>Z)) Z (fun v2=>?_);refine aA Z Z ?_;refine aN Z ?_;refine T.seq ?_;refine aS ?_;refine aA Z Z ?_;refine z6 (zk (OpR.pure Z) (xh (xX _ _))) Z ?_;refine aA Z Z ?_;refine aN Z ?_;obtain⟨t3,ht3,h0⟩:=bS h0;refine zz (fun S'=>∃ u4,t3=Ex.brk u4∧S'=⟨[(6,.val v2),(5,(dT false)),(4,.val (.slice none 0 0))],[.row v2 (List.map eB u4) 1 4],35⟩) (fun _ h=>h) ?_ ?_;rotate_left
 ·rintro _ ⟨u4,rfl,rfl⟩;show T X _ _ _;refine aS ?_;iterate 3 refine aA rfl rfl ?_
  refine aN Z ?_;refine T.ret ?_;obtain rfl:=osi h0;exact zC (ks:=[]) (Gst.trans (Gst.only [4,5] Z) (Gst.trans (zA 0 Z Z (ReS.cons Re.refl (ReS.cons (Re.base .all) ReS.nil)) (ReO.same ReO.nil)) (Gst.pick [] Z Z))) undef (cT Z (cT Z ResL.nil)) Z Z Z Z
 refine T.block ?_;obtain⟨n6,n11⟩:=zw ht3;refine T.loop (fun n S'=>∃ S'',Gst S' S''∧∃ s5:Int × (List Bool),S''=⟨[(13,(dN s5.1)),(12,(dN (a1.length:Int))),(11,.sl 1 (List.map (eI .i64) a1)),(6,.val v2),(5,(dT false)),(4,.val (.slice none 0 0)),(0,(dN a0))],[.row v2 (List.map eB s5.2) 1 4],35⟩∧wc (xC.l1 a0 a1) n s5=some t3) n6 ?_ ?_
 ·exact⟨_,Gst.only [0,4,5,6,11,12,13] Z,(0,x1),Z,n11⟩
 rintro n6 _ ⟨_,g,s5,rfl,i10⟩;refine T.ghost g ?_;obtain⟨m7,q8,rfl,q9,i10⟩:=zx i10;unfold xC.l1 at q9;refine aS ?_;refine aA Z Z ?_;refine aN Z ?_;refine T.seq ?_;rcases z9 q9 with ⟨c13,q9⟩|⟨c13,q9⟩;rotate_left
 ·refine zh Z (eF c13) ?_;refine T.exit ?_;obtain rfl:=osi q9;obtain rfl:_=_:=i10;exact⟨_,Gst.only [4,5,6] Z,_,Z,Z⟩
 refine zi Z (eT c13) ?_;refine aK Z ?_;refine T.seq ?_;refine T.block ?_;refine aS ?_;obtain⟨x14,hx14,q9⟩:=bS q9;refine z6 (zp (eI .i64) hx14 Z Z Z Z Z) Z ?_;iterate 2 refine aA rfl rfl ?_
 refine aN Z ?_;refine T.seq ?_;refine T.seq ?_;obtain⟨t15,ht15,q9⟩:=bS q9;refine zz (fun S'=>S'=⟨[(29,(dT t15)),(13,(dN s5.1)),(12,(dN (a1.length:Int))),(11,.sl 1 (List.map (eI .i64) a1)),(8,(dN x14)),(6,.val v2),(5,(dT false)),(4,.val (.slice none 0 0)),(0,(dN a0))],[.row v2 (List.map eB s5.2) 1 4],35⟩) (fun _ h=>h) ?_ ?_;rotate_left
 ·rintro _ rfl;show T X _ _ _;rcases z9 q9 with ⟨c19,q9⟩|⟨c19,q9⟩
  ·refine zi Z (c19) ?_;refine aS ?_;iterate 2 refine aA rfl rfl ?_
   refine aN Z ?_;refine T.ret ?_;obtain rfl:=osi q9;obtain rfl:_=_:=i10;obtain rfl:=osi h0;exact zC (ks:=[]) (Gst.trans (Gst.only [4,5] Z) (Gst.trans (Gst.denil (ReS.cons Re.refl (ReS.cons (Re.base .nil) ReS.nil)) (ReO.same ReO.nil)) (Gst.pick [] Z Z))) undef (cT Z (cT Z ResL.nil)) Z Z Z Z
  refine zh Z (eN c19) ?_;refine aK Z ?_;refine T.region ?_;iterate 2 refine aA rfl rfl ?_
  obtain⟨x20,hx20,q9⟩:=bS q9;refine z6 (zK eB 0 hx20 Z Z Z Z Z Z Z) Z ?_;refine zy (yA (j:=x14) eB true 0 hx20 Z Z Z Z Z Z Z Z Z) ?_;refine aN Z ?_;refine T.region ?_;iterate 2 refine aA rfl rfl ?_
  refine TL.nil ?_;obtain rfl:=osi q9;exact⟨m7,Nat.lt_succ_self _,_,Gst.only [0,4,5,6,11,12,13] Z,(w64 (s5.1+1),(s5.2.set x14.toNat true)),Z,i10⟩
 refine T.region ?_;iterate 3 refine aA rfl rfl ?_
 rcases z9 ht15 with ⟨c16,ht15⟩|⟨c16,ht15⟩
 ·refine TL.off Z Z Z Z (eT c16) Z Z ?_;refine TL.off Z Z Z Z (eT c16) Z Z ?_;refine TL.off Z Z Z Z (eT c16) Z Z ?_;refine z6 (zt Z (eT c16) Z) Z ?_;refine aA Z Z ?_;refine TL.off Z Z Z Z Z Z Z ?_;refine TL.off Z Z Z Z Z Z Z ?_;refine TL.off Z Z Z Z Z Z Z ?_;refine TL.off Z Z Z Z Z Z Z ?_;refine z6 (zt Z Z Z) Z ?_;refine TL.nil ?_;obtain rfl:=osi ht15;exact⟨_,Gst.only [0,4,5,6,8,11,12,13,29] Z,Z⟩
 refine TL.on Z Z Z Z (eF c16) ?_;refine aA Z Z ?_;refine TL.on Z Z Z Z (eF c16) ?_;refine aA Z Z ?_;refine TL.on Z Z Z Z (eF c16) ?_;refine aA Z Z ?_;refine z6 (zu Z (eF c16) Z) Z ?_;refine aA Z Z ?_;rcases z9 ht15 with ⟨c17,ht15⟩|⟨c17,ht15⟩
 ·refine TL.off Z Z Z Z (eT c17) Z Z ?_;refine TL.off Z Z Z Z (eT c17) Z Z ?_;refine TL.off Z Z Z Z (eT c17) Z Z ?_;refine TL.off Z Z Z Z (eT c17) Z Z ?_;refine z6 (zt Z (eT c17) Z) Z ?_;refine TL.nil ?_;obtain rfl:=osi ht15;exact⟨_,Gst.only [0,4,5,6,8,11,12,13,29] Z,Z⟩
 refine TL.on Z Z Z Z (eF c17) ?_;refine aA Z Z ?_;refine TL.on Z Z Z Z (eF c17) ?_;refine aA Z Z ?_;refine TL.on Z Z Z Z (eF c17) ?_;obtain⟨x18,hx18,ht15⟩:=bS ht15;refine z6 (zK eB 0 hx18 Z Z Z Z Z Z Z) Z ?_;refine TL.on Z Z Z Z (eF c17) ?_;refine z6 (zJ (j:=x14) eB 0 hx18 Z Z Z Z) Z ?_;refine z6 (zu Z (eF c17) Z) Z ?_;refine TL.nil ?_;obtain rfl:=osi ht15;exact⟨_,Gst.only [0,4,5,6,8,11,12,13,29] Z,Z⟩
noncomputable def yk.l1 (a0:List Bool) (a1:List Bool) (s4:Int):Option (Lp Int (Ex Unit Bool)):=
 if s4<(a0.length:Int) then
 bnd (idx a0 s4) fun x14=>
 bnd (idx a1 s4) fun x15=>
 if (x14==x15)=true then
 some (Lp.next (w64 (s4+1)))
else
 some (Lp.done (Ex.ret false))
else
 some (Lp.done (Ex.brk ()))
noncomputable def yk (a0:List Bool) (a1:List Bool):Option Bool:=
 if (a0.length:Int)=(a1.length:Int) then
 bnd (loop (yk.l1 a0 a1) 0:Option (Ex Unit Bool)) fun t2=>match t2 with
| .brk u3=>
 some true
| .ret u3=>some u3
else
 some false
theorem rn {a0:List Bool} {a1:List Bool} {res:Bool} (h0:yk a0 a1=some res):zn X 99 [.sl 1 (List.map eB a0),.sl 1 (List.map eB a1)] [] (fun x=>(dT res)) (fun x=>[]):=by
 unfold yk at h0;refine zg (X:=X) Z Tryz.func99 Z Z Tryz.ntmps99 Z Z ?_;refine aS ?_;refine aA Z Z ?_;refine aN Z ?_;refine T.seq ?_;refine aS ?_;refine aA Z Z ?_;refine z6 (zk (OpR.pure Z) (xh (xX _ _))) Z ?_;refine aA Z Z ?_;refine z6 (zk (OpR.pure Z) (xh (xX _ _))) Z ?_;refine aA Z Z ?_;refine aN Z ?_;rcases z9 h0 with ⟨c1,h0⟩|⟨c1,h0⟩;rotate_left
 ·refine zi Z (yd (beq_eq_false_iff_ne.2 c1)) ?_;refine aS ?_;refine aA Z Z ?_;refine aN Z ?_;refine T.ret ?_;obtain rfl:=osi h0;exact rO [] [4] Z undef (cT Z ResL.nil) Z Z Z Z
 refine zh Z (zS (beq_iff_eq.2 c1)) ?_;refine aK Z ?_;refine T.seq ?_;refine aS ?_;refine aA Z Z ?_;refine z6 (zk (OpR.pure Z) (xh (xX _ _))) Z ?_;refine aA Z Z ?_;refine aN Z ?_;obtain⟨t2,ht2,h0⟩:=bS h0;refine zz (fun S'=>∃ u3,t2=Ex.brk u3∧S'=⟨[(4,(dT false))],[],26⟩) (fun _ h=>h) ?_ ?_;rotate_left
 ·rintro _ ⟨u3,rfl,rfl⟩;show T X _ _ _;refine aS ?_;refine aA Z Z ?_;refine aN Z ?_;refine T.ret ?_;obtain rfl:=osi h0;exact rO [] [4] Z undef (cT Z ResL.nil) Z Z Z Z
 refine T.block ?_;obtain⟨n5,n10⟩:=zw ht2;refine T.loop (fun n S'=>∃ S'',Gst S' S''∧∃ s4:Int,S''=⟨[(13,(dN s4)),(12,(dN (a0.length:Int))),(4,(dT false)),(1,.sl 1 (List.map eB a1)),(0,.sl 1 (List.map eB a0))],[],26⟩∧wc (yk.l1 a0 a1) n s4=some t2) n5 ?_ ?_
 ·exact⟨_,Gst.only [0,1,4,12,13] Z,0,Z,n10⟩
 rintro n5 _ ⟨_,g,s4,rfl,i9⟩;refine T.ghost g ?_;obtain⟨m6,q7,rfl,q8,i9⟩:=zx i9;unfold yk.l1 at q8;refine aS ?_;refine aA Z Z ?_;refine aN Z ?_;refine T.seq ?_;rcases z9 q8 with ⟨c12,q8⟩|⟨c12,q8⟩;rotate_left
 ·refine zh Z (eF c12) ?_;refine T.exit ?_;obtain rfl:=osi q8;obtain rfl:_=_:=i9;exact⟨_,Gst.only [4] Z,_,Z,Z⟩
 refine zi Z (eT c12) ?_;refine aK Z ?_;refine T.seq ?_;refine T.block ?_;refine aS ?_;iterate 2 refine aA rfl rfl ?_
 refine aN Z ?_;refine T.seq ?_;obtain⟨x14,hx14,q8⟩:=bS q8;obtain⟨x15,hx15,q8⟩:=bS q8;refine yo zW [.sl 1 (List.map eB a0),dN s4,.nod [dT x14],dT x14,.sl 1 (List.map eB a1),dN s4,.nod [dT x15],dT x15,dT (!(x14==x15))] [0,1,4,12,13,24] (by decide +kernel) Z ?_ Z ?_
 ·iterate 2 refine aB rfl rfl rfl ?_
  refine zq.yes (Want.plain Z) Z (zp eB hx14 Z Z Z Z Z) ?_;iterate 3 refine aB rfl rfl rfl ?_
  refine zq.yes (Want.plain Z) Z (zp eB hx15 Z Z Z Z Z) ?_;refine aB Z Z Z ?_;refine zq.yes (Want.plain Z) Z (OpR.neBool Z Z Z Z) ?_;exact zq.nil
 show T X _ _ _;rcases z9 q8 with ⟨c16,q8⟩|⟨c16,q8⟩
 ·refine zh Z (zS (c16)) ?_;refine aK Z ?_;refine T.region ?_;iterate 2 refine aA rfl rfl ?_
  refine TL.nil ?_;obtain rfl:=osi q8;exact⟨m6,Nat.lt_succ_self _,_,Gst.only [0,1,4,12,13] Z,w64 (s4+1),Z,i9⟩
 refine zi Z (yd (eN c16)) ?_;refine aS ?_;refine aA Z Z ?_;refine aN Z ?_;refine T.ret ?_;obtain rfl:=osi q8;obtain rfl:_=_:=i9;obtain rfl:=osi h0;exact rO [] [4] Z undef (cT Z ResL.nil) Z Z Z Z
noncomputable def yM (a0:Int) (a1:row_Row) (a2:List row_Row):Option (List row_Row):=
 bnd (app 40 a2 [a1]) fun x32=>
 some x32
theorem qt {a0:Int} {a1:row_Row} {a2:List row_Row} {b0:Nat} {b1:Nat} {v2:Value} {res:(List row_Row)} (h0:yM a0 a1 a2=some res):pq X b0 [dN a0,.agg [.sl 5 (List.map zo a1.fCells),dN a1.fEnd,dT a1.fHidden]] [.lp b0 .ready none [13,14] tE tD [(3,(dP b1))] 20,.var b1 [.val v2] 163,.row v2 (List.map z8 a2) 3 49] (fun x=>(dT true)) (fun x=>[.lp b0 .ready none [13,14] tE tD [(3,(dP b1))] 20,.var b1 [.val (vn x 0)] 163,.row (vn x 0) (List.map z8 res) 3 49]):=by
 unfold yM at h0;refine pq.mk (X:=X) Z Z Z ?_;refine T.region ?_;refine TL.op (OpR.alloc Z Z (fun _=>Z)) Z (fun p31=>?_);refine zy (OpR.store 3 Z Z Z Z Z Z Z Z) ?_;refine TL.nil ?_;refine RoundA.mk ?_;refine T.block ?_;refine T.region ?_;refine z6 (z7 1 Z Z Z Z) Z ?_;refine z6 (z7 3 Z Z Z Z) Z ?_;refine z6 (yC Z Z Z Z Z Z Z) Z ?_;obtain⟨x32,hx32,h0⟩:=bS h0;refine TL.op (zH (m:=[a1]) z8 2 hx32 Z Z Z Z Z Z Z Z Z (fun _=>Z)) Z (fun v33=>?_);refine zy (OpR.store 1 Z Z Z Z Z Z Z Z) ?_;refine TL.nil ?_;obtain rfl:=osi h0;exact qe.mk (ks:=[0,1,2]) (gP [] [0,1,2] Z Z Z) (.tuple #[v33]) Z Z Z Z Z
noncomputable def yj.l1 (a1:Int) (s10:Int × (List row_Row) × (List wFr)):Option (Lp (Int × (List row_Row) × (List wFr)) (List row_Row)):=
 if s10.1<a1 then
  bnd (ye s10.2.2) fun x19=>
  bnd (idx s10.2.2 x19) fun x20=>
  bnd (some x20.fN) fun q21=>match q21 with
   | none=>
    none
   | some z22=>
    bnd (vq z22) fun x24=>
    bnd (if x20.fNext=(x24.fItems.length:Int) then
     bnd (zM s10.2.2) fun x29=>
     some x29.2
    else
     some s10.2.2:Option (List wFr)) fun t26=>
    bnd (ye t26) fun x31=>
    bnd (idx t26 x31) fun x32=>
    bnd (some x32.fN) fun q33=>match q33 with
     | none=>
      none
     | some z34=>
      bnd (vq z34) fun x36=>
      bnd (idx x36.fItems x32.fNext) fun x38=>
      bnd (yM s10.1 x38 s10.2.1) fun x39=>
      some (Lp.next (w64 (s10.1+1),x39,(t26.set x31.toNat (⟨x32.fN,x32.fFirst,w64 (x32.fNext+1)⟩:wFr))))
 else
  some (Lp.done s10.2.1)
noncomputable def yj (a0:Int) (a1:Int) (a2:Option NP) (a3:List row_Row):Option (List row_Row):=
 if a0=a1 then
 some a3
else
 bnd (yF (⟨a2⟩:tTr)) fun x4=>
 match x4 with
| .inl x4=>
 none
| .inr x4=>
 bnd (zO x4.1 x4.2.1 x4.2.2 0 a0) fun x5=>
 bnd (loop (yj.l1 a1) (a0,a3,x5):Option (List row_Row)) fun t6=>
 some t6
theorem rm {a0:Int} {a1:Int} {a2:Option NP} {a3:List row_Row} {b0:Nat} {b1:Nat} {b2:Nat} {b3:Nat} {b4:Nat} {v5:Value} {res:(List row_Row)} (h0:yj a0 a1 a2 a3=some res):zn X 146 [.fn (.yield b0) [] [],dP b1,dP b2,dP b3] [.lp b0 .ready none [13,14] tE tD [(3,(dP b4))] 20,.var b1 [dN a0] 3,.var b2 [dN a1] 3,.var b3 [(eOP a2)] 25,.var b4 [.val v5] 163,.row v5 (List.map z8 a3) 3 49] (fun x=>.tup []) (fun x=>[.lp b0 .ready none [13,14] tE tD [(3,(dP b4))] 20,.var b1 [dN a0] 3,.var b2 [dN a1] 3,.var b3 [(eOP a2)] 25,.var b4 [.val (vn x 0)] 163,.row (vn x 0) (List.map z8 res) 3 49]):=by
 unfold yj at h0;refine zg (X:=X) Z Tryz.func146 Z Z Tryz.ntmps146 Z Z ?_;refine T.seq ?_;refine aS ?_;refine z6 (z7 1 Z Z Z Z) Z ?_;refine z6 (z7 2 Z Z Z Z) Z ?_;refine aA Z Z ?_;refine aN Z ?_;rcases z9 h0 with ⟨c1,h0⟩|⟨c1,h0⟩
 ·refine zi Z (beq_iff_eq.2 c1) ?_;refine T.ret ?_;obtain rfl:=osi h0;exact rO [0,1,2,3,4,5] [] Z (.tuple #[v5]) ResL.nil Z Z Z Z
 refine zh Z (beq_eq_false_iff_ne.2 c1) ?_;refine aK Z ?_;refine aS ?_;refine TL.op (OpR.alloc Z Z (fun _=>Z)) Z (fun p2=>?_);refine aN Z ?_;refine T.seq ?_;obtain⟨x4,hx4,h0⟩:=bS h0;rcases x4 with x4|x4
 ·dsimp only at h0;exact (by cases h0)
 dsimp only at h0;obtain⟨x5,hx5,h0⟩:=bS h0;refine yx zW (fun env3=>[.agg [(eOP a2)],.nod [.sl 1 (List.map eNP x4.1),.sl 3 (List.map z8 x4.2.1),dN x4.2.2],dN a0,.tup []]) (fun D env3=>[.lp b0 .ready none [13,14] tE tD [(3,(dP b4))] 20,.var b1 [dN a0] 3,.var b2 [dN a1] 3,.var b3 [(eOP a2)] 25,.var b4 [.val v5] 163,.row v5 (List.map z8 a3) 3 49,(bif D 3 then .var (blk p2) [.val (vn (env3 3) 0)] 228 else .var (blk p2) [.val (.slice none 0 0)] 228)]++(bif D 3 then [.row (vn (env3 3) 0) (List.map yO x5) 3 234] else [])) [0,1,0,7] [0,1,2,5] _ (by decide +kernel) (by decide +kernel) (fun _=>Z) (fun _=>Z) ?_ (fun _=>Z) (fun _=>Z) ?_
 ·refine oT (.agg [(eOP a2)]) (fun _ _=>z7 3 Z Z Z Z) ?_;refine oT (.nod [.sl 1 (List.map eNP x4.1),.sl 3 (List.map z8 x4.2.1),dN x4.2.2]) (fun _ _=>zf fn148 (v8 hx4) Z) ?_;refine oT ((dN a0)) (fun _ _=>z7 1 Z Z Z Z) ?_;refine zj true ?_ (fun D hA env3 x j hj hD=>match j,hj,hD with|0,_,_=>Z|1,_,_=>Z|2,_,_=>Z|3,hj,_=>absurd Z hj|_+4,_,_=>Z) ?_
  ·intro D env3 hA;exact zI [(3,false)] ⟨hA.me,trivial⟩ (Want.plain Z) (OpR.call [6] fn147 (vl hx5) Z Z Z (fun _=>Z)) (fun x=>Z) (fun x=>Z)
  exact trivial
 intro env3;show T X _ _ _;refine aS ?_;refine z6 (z7 1 Z Z Z Z) Z ?_;refine aA Z Z ?_;refine aN Z ?_;obtain⟨t6,ht6,h0⟩:=bS h0;refine T.cutN (fun S'=>∃ y7:Value,S'=⟨[],[.lp b0 .ready none [13,14] tE tD [(3,(dP b4))] 20,.var b1 [dN a0] 3,.var b2 [dN a1] 3,.var b3 [(eOP a2)] 25,.var b4 [.val y7] 163,.row y7 (List.map z8 t6) 3 49],62⟩) (fun _ _ g ⟨h,S',ds,g',r⟩=>⟨h,S',ds,Gst.trans g g',r⟩) ?_ ?_;rotate_left
 ·rintro _ ⟨y7,rfl⟩;obtain rfl:=osi h0;exact xj (ks:=[0,1,2,3,4,5]) (Gst.only [] Z) (.tuple #[y7]) ResL.nil Z Z Z Z
 refine T.block ?_;obtain⟨n11,n16⟩:=zw ht6;refine T.loop (fun n S'=>∃ S'',Gst S' S''∧∃ y8:Value,∃ y9:Value,∃ s10:Int × (List row_Row) × (List wFr),S''=⟨[(6,(dN s10.1)),(5,(dP (blk p2))),(2,(dP b2)),(0,.fn (.yield b0) [] [])],[.lp b0 .ready none [13,14] tE tD [(3,(dP b4))] 20,.var b1 [dN a0] 3,.var b2 [dN a1] 3,.var b3 [(eOP a2)] 25,.var b4 [.val y8] 163,.row y8 (List.map z8 s10.2.1) 3 49,.var (blk p2) [.val y9] 228,.row y9 (List.map yO s10.2.2) 3 234],62⟩∧wc (yj.l1 a1) n s10=some t6) n11 ?_ ?_
 ·exact⟨_,Gst.only [0,2,5,6] Z,v5,(vn (env3 3) 0),(a0,a3,x5),Z,n16⟩
 rintro n11 _ ⟨_,g,y8,y9,s10,rfl,i15⟩;refine T.ghost g ?_;obtain⟨m12,q13,rfl,q14,i15⟩:=zx i15;unfold yj.l1 at q14;refine T.seq ?_;refine aS ?_;refine aA Z Z ?_;refine z6 (z7 2 Z Z Z Z) Z ?_;refine aA Z Z ?_;refine aN Z ?_;rcases z9 q14 with ⟨c18,q14⟩|⟨c18,q14⟩;rotate_left
 ·refine zh Z (eF c18) ?_;refine T.exit ?_;obtain rfl:=osi q14;obtain rfl:_=_:=i15;exact⟨_,gP [] [0,1,2,3,4,5] Z Z Z,y8,Z⟩
 refine zi Z (eT c18) ?_;refine aK Z ?_;refine T.seq ?_;refine T.block ?_;refine T.seq ?_;refine aS ?_;obtain⟨x19,hx19,q14⟩:=bS q14;refine z6 (OpR.call [6,7] fn149 (yT hx19) Z Z Z (fun _=>Z)) Z ?_;refine aA Z Z ?_;refine aN Z ?_;refine T.seq ?_;obtain⟨x20,hx20,q14⟩:=bS q14;obtain⟨q21,hq21,q14⟩:=bS q14;rcases q21 with _|z22
 ·dsimp only at q14;exact (by cases q14)
 dsimp only at q14;obtain⟨x24,hx24,q14⟩:=bS q14;rw[xk hx24] at hq21;refine yo zW [.val (.pointer (some ⟨blk y9,x19.toNat*3,none⟩)),.val (.pointer (some ⟨blk y9,x19.toNat*3,none⟩)),.val (.pointer (some ⟨blk y9,x19.toNat*3+2,none⟩)),dN x20.fNext,.val (.pointer (some ⟨blk y9,x19.toNat*3,none⟩)),.val (.pointer (some ⟨blk y9,x19.toNat*3,none⟩)),.val (.pointer (some ⟨blk y9,x19.toNat*3,none⟩)),.nod [.sl 1 (List.map eNP x24.fKids),.sl 3 (List.map z8 x24.fItems),dN x24.fN],.nod [.sl 1 (List.map eNP x24.fKids),.sl 3 (List.map z8 x24.fItems),dN x24.fN],.nod [.sl 3 (List.map z8 x24.fItems),dN x24.fN],.sl 3 (List.map z8 x24.fItems),dN (x24.fItems.length:Int),dT (x20.fNext==(x24.fItems.length:Int))] [0,2,5,6,35] (by decide +kernel) Z ?_ Z ?_
 ·iterate 3 refine aB rfl rfl rfl ?_
  refine zq.yes (Want.plain Z) Z (xb (j:=x19) yO 7 hx20 Z Z Z Z) ?_;iterate 3 refine aB rfl rfl rfl ?_
  refine zq.yes (Want.plain Z) Z (zk (zJ (j:=x19) yO 7 hx20 Z Z Z Z) (congrArg eOP (osi hq21))) ?_;iterate 3 refine aB rfl rfl rfl ?_
  refine zq.yes (Want.plain Z) Z (zk (OpR.pure Z) (xh (xX _ _))) ?_;refine aB Z Z Z ?_;exact zq.nil
 show T X _ _ _;obtain⟨t26,ht26,q14⟩:=bS q14;refine zz (fun S'=>∃ y27:Value,S'=⟨[(6,(dN s10.1)),(5,(dP (blk p2))),(2,(dP b2)),(0,.fn (.yield b0) [] [])],[.lp b0 .ready none [13,14] tE tD [(3,(dP b4))] 20,.var b1 [dN a0] 3,.var b2 [dN a1] 3,.var b3 [(eOP a2)] 25,.var b4 [.val y8] 163,.row y8 (List.map z8 s10.2.1) 3 49,.var (blk p2) [.val y27] 228,.row y27 (List.map yO t26) 3 234],62⟩) (fun _ h=>h) ?_ ?_
 ·rcases z9 ht26 with ⟨c28,ht26⟩|⟨c28,ht26⟩;rotate_left
  ·refine zh Z (beq_eq_false_iff_ne.2 c28) ?_;refine T.skip ?_;obtain rfl:=osi ht26;exact⟨_,Gst.only [0,2,5,6] Z,y9,Z⟩
  refine zi Z (beq_iff_eq.2 c28) ?_;refine T.region ?_;obtain⟨x29,hx29,ht26⟩:=bS ht26;refine TL.op (OpR.call [6,7] fn150 (wZ hx29) Z Z Z (fun _=>Z)) Z (fun w30=>?_);refine TL.nil ?_;obtain rfl:=osi ht26;exact⟨_,Gst.only [0,2,5,6] Z,(vn w30 0),Z⟩
 rintro _ ⟨y27,rfl⟩;show T X _ _ _;refine aS ?_;obtain⟨x31,hx31,q14⟩:=bS q14;refine z6 (OpR.call [6,7] fn149 (yT hx31) Z Z Z (fun _=>Z)) Z ?_;refine aA Z Z ?_;refine aN Z ?_;refine T.seq ?_;refine T.seq ?_;obtain⟨x32,hx32,q14⟩:=bS q14;obtain⟨q33,hq33,q14⟩:=bS q14;rcases q33 with _|z34
 ·dsimp only at q14;exact (by cases q14)
 dsimp only at q14;obtain⟨x36,hx36,q14⟩:=bS q14;rw[xk hx36] at hq33;obtain⟨x38,hx38,q14⟩:=bS q14;obtain⟨x39,hx39,q14⟩:=bS q14;refine yx zW (fun env37=>[.fn (.yield b0) [] [],dN s10.1,.val (.pointer (some ⟨blk y27,x31.toNat*3,none⟩)),.val (.pointer (some ⟨blk y27,x31.toNat*3,none⟩)),.val (.pointer (some ⟨blk y27,x31.toNat*3,none⟩)),.nod [.sl 1 (List.map eNP x36.fKids),.sl 3 (List.map z8 x36.fItems),dN x36.fN],.nod [.sl 1 (List.map eNP x36.fKids),.sl 3 (List.map z8 x36.fItems),dN x36.fN],.nod [.sl 3 (List.map z8 x36.fItems),dN x36.fN],.sl 3 (List.map z8 x36.fItems),.val (.pointer (some ⟨blk y27,x31.toNat*3,none⟩)),.val (.pointer (some ⟨blk y27,x31.toNat*3,none⟩)),.val (.pointer (some ⟨blk y27,x31.toNat*3+2,none⟩)),dN x32.fNext,.nod [.sl 5 (List.map zo x38.fCells),dN x38.fEnd,dT x38.fHidden],.agg [.sl 5 (List.map zo x38.fCells),dN x38.fEnd,dT x38.fHidden],dT true,dT false]) (fun D env37=>[.lp b0 .ready none [13,14] tE tD [(3,(dP b4))] 20,.var b1 [dN a0] 3,.var b2 [dN a1] 3,.var b3 [(eOP a2)] 25,(bif D 15 then .var b4 [.val (vn (env37 15) 0)] 163 else .var b4 [.val y8] 163),(bif D 15 then .row (vn (env37 15) 0) (List.map z8 x39) 3 49 else .row y8 (List.map z8 s10.2.1) 3 49),.var (blk p2) [.val y27] 228,.row y27 (List.map yO t26) 3 234]) [0,0,0,4,12,28,60,124,252,0,512,1536,3584,8188,16380,32767,65535] [0,2,5,6,8,54] _ (by decide +kernel) (by decide +kernel) (fun _=>Z) (fun _=>Z) ?_ (fun _=>Z) (fun _=>Z) ?_;rotate_left
 ·intro env37;show T X _ _ _;refine zh Z Z ?_;refine aK Z ?_;refine T.region ?_;iterate 3 refine aA rfl rfl ?_
  refine z6 (xb (j:=x31) yO 7 hx32 Z Z Z Z) Z ?_;iterate 3 refine aA rfl rfl ?_
  refine zy (tc (j:=x31) yO (⟨x32.fN,x32.fFirst,w64 (x32.fNext+1)⟩:wFr) 7 hx32 Z Z Z Z Z Z Z Z Z) ?_;refine aN Z ?_;refine T.region ?_;iterate 3 refine aA rfl rfl ?_
  refine TL.nil ?_;obtain rfl:=osi q14;exact⟨m12,Nat.lt_succ_self _,_,Gst.only [0,2,5,6] Z,(vn (env37 15) 0),y27,(w64 (s10.1+1),x39,(t26.set x31.toNat (⟨x32.fN,x32.fFirst,w64 (x32.fNext+1)⟩:wFr))),Z,i15⟩
 iterate 5 refine aC ?_
 refine oT (.nod [.sl 1 (List.map eNP x36.fKids),.sl 3 (List.map z8 x36.fItems),dN x36.fN]) (fun _ _=>zk (zJ (j:=x31) yO 7 hx32 Z Z Z Z) (congrArg eOP (osi hq33))) ?_;iterate 6 refine aC ?_
 refine oT ((dN x32.fNext)) (fun _ _=>xb (j:=x31) yO 7 hx32 Z Z Z Z) ?_;refine oT (.nod [.sl 5 (List.map zo x38.fCells),dN x38.fEnd,dT x38.fHidden]) (fun _ _=>zp z8 hx38 Z Z Z Z Z) ?_;refine aC ?_;refine zj true ?_ (fun D hA env37 x j hj hD=>match j,hj,hD with|0,_,_=>Z|1,_,_=>Z|2,_,_=>Z|3,_,_=>Z|4,_,_=>Z|5,_,_=>Z|6,_,_=>Z|7,_,_=>Z|8,_,_=>Z|9,_,_=>Z|10,_,_=>Z|11,_,_=>Z|12,_,_=>Z|13,_,_=>Z|14,_,_=>Z|15,hj,_=>absurd Z hj|16,_,_=>Z|_+17,_,_=>Z) ?_
 ·intro D env37 hA;exact zI [(15,false)] ⟨hA.me,trivial⟩ (Want.plain Z) (OpR.callY [0,4,5] Z (qt hx39) Z Z Z (fun _=>Z)) (fun x=>Z) (fun x=>Z)
 refine aC ?_;exact trivial
noncomputable def vI (a0:tTr):Option (List row_Row):=
 bnd (yB a0) fun x1=>
 bnd ((mkc 40 x1:Option (List row_Row))) fun x2=>
 bnd (yB a0) fun x6=>
 bnd (xU a0 0 x6) fun x7=>
 bnd (yj x7.1 x7.2.1 x7.2.2 x2) fun x9=>
 some x9
theorem pO {a0:tTr} {res:(List row_Row)} (h0:vI a0=some res):zn X 100 [.agg [(eOP a0.fRoot)]] [] (fun x=>.val (vn x 0)) (fun x=>[.row (vn x 0) (List.map z8 res) 3 49]):=by
 unfold vI at h0;refine zg (X:=X) Z Tryz.func100 Z Z Tryz.ntmps100 Z Z ?_;refine aS ?_;refine z6 (zD Z Z) Z ?_;refine aA Z Z ?_;refine aN Z ?_;refine aS ?_;refine aA Z Z ?_;obtain⟨x1,hx1,h0⟩:=bS h0;refine z6 (zf fn79 (xw hx1) Z) Z ?_;obtain⟨x2,hx2,h0⟩:=bS h0;refine TL.op (qm z8 hx2 Z Z Z Z Z Z Z (fun _=>Z)) Z (fun v3=>?_);refine TL.op (OpR.alloc Z Z (fun _=>Z)) Z (fun p4=>?_);refine zy (OpR.store 1 Z Z Z Z Z Z Z Z) ?_;refine aN Z ?_;refine T.seq ?_;refine T.seq ?_;obtain⟨x6,hx6,h0⟩:=bS h0;obtain⟨x7,hx7,h0⟩:=bS h0;refine yx zW (fun env5=>[.agg [(eOP a0.fRoot)],.agg [(eOP a0.fRoot)],dN x6,.fn (.func 146) [] [dP (blk (vn (env5 3) 0)),dP (blk (vn (env5 3) 1)),dP (blk (vn (env5 3) 2))]]) (fun D env5=>[.row v3 (List.map z8 x2) 3 49,.var (blk p4) [.val v3] 163]++(bif D 3 then [.var (blk (vn (env5 3) 0)) [dN x7.1] 3] else [])++(bif D 3 then [.var (blk (vn (env5 3) 1)) [dN x7.2.1] 3] else [])++(bif D 3 then [.var (blk (vn (env5 3) 2)) [(eOP x7.2.2)] 25] else [])) [0,0,2,7] [2,3,12] _ (by decide +kernel) (by decide +kernel) (fun _=>Z) (fun _=>Z) ?_ (fun _=>Z) (fun _=>Z) ?_;rotate_left
 ·intro env5;show T X _ _ _;refine T.block ?_;obtain⟨x9,hx9,h0⟩:=bS h0;refine T.rangeN (A:=tE) (B:=tD) [3] [2,3,4,1,0] (.inl Z) Z Z Z Z Z fn146 Z Z (fun l8=>(rm hx9)) (fun _=>Z) (fun w10=>?_);show T X _ _ _;refine aS ?_;refine z6 (z7 1 Z Z Z Z) Z ?_;refine aA Z Z ?_;refine aN Z ?_;refine T.ret ?_;obtain rfl:=osi h0;exact rP [0] [2] [0] Z Z Z (.tuple #[(vn w10 0)]) (cT Z ResL.nil) Z Z Z Z
 iterate 2 refine aC ?_
 refine oT ((dN x6)) (fun _ _=>zf fn79 (xw hx6) Z) ?_;refine zj true ?_ (fun D hA env5 x j hj hD=>match j,hj,hD with|0,_,_=>Z|1,_,_=>Z|2,_,_=>Z|3,hj,_=>absurd Z hj|_+4,_,_=>Z) ?_
 ·intro D env5 hA;exact zI [(3,false)] ⟨hA.me,trivial⟩ (Want.plain Z) (OpR.call [] fn80 (uo hx7) Z Z Z (fun _=>Z)) (fun x=>Z) (fun x=>Z)
 exact trivial
noncomputable def vf.l1 (a0:grid_Grid) (a1:List Int) (a2:List Int) (s15:Int × (List row_Row)):Option (Lp (Int × (List row_Row)) (List row_Row)):=
 if s15.1<(a1.length:Int) then
 bnd (idx a1 s15.1) fun x24=>
 bnd (idx a2 s15.1) fun x26=>
 bnd (vh a0 x26) fun x27=>
 bnd (idx s15.2 x24) fun x28=>
 some (Lp.next (w64 (s15.1+1),(s15.2.set x24.toNat x27.1)))
else
 some (Lp.done s15.2)
noncomputable def vf (a0:grid_Grid) (a1:List Int) (a2:List Int):Option (grid_Grid × Int):=
 bnd (xg a0) fun x3=>
 bnd (xC x3 a1) fun x4=>
 bnd (xg a0) fun x5=>
 bnd (xC x5 a2) fun x6=>
 bnd (if x4.2=true then
 if x6.2=true then
 bnd (yk x4.1 x6.1) fun x10=>
 some (!x10)
else
 some true
else
 some true:Option Bool) fun t7=>
 if t7=true then
 some ((⟨(⟨none⟩:tTr),false,0⟩:grid_Grid),1)
else
 bnd (vI a0.fRows) fun x12=>
 bnd (loop (vf.l1 a0 a1 a2) (0,x12):Option (List row_Row)) fun t14=>
 bnd (wU t14) fun x29=>
 some ((⟨x29,a0.fTail,a0.fEnd⟩:grid_Grid),0)
theorem order_Put_c {a0:grid_Grid} {a1:List Int} {a2:List Int} {res:grid_Grid × Int} (h0:vf a0 a1 a2=some res):zn X 40 [.agg [(eOP a0.fRows.fRoot),dT a0.fTail,dN a0.fEnd],.sl 1 (List.map (eI .i64) a1),.sl 1 (List.map (eI .i64) a2)] [] (fun x=>.tup [.agg [(eOP res.1.fRows.fRoot),dT res.1.fTail,dN res.1.fEnd],dN res.2]) (fun x=>[]):=by
 unfold vf at h0;refine zg (X:=X) Z Tryz.func40 Z Z Tryz.ntmps40 Z Z ?_;refine aS ?_;refine TL.op (xK Z Z (fun _=>Z)) Z (fun p1=>?_);refine TL.op (OpR.alloc Z Z (fun _=>Z)) Z (fun p2=>?_);refine aA Z Z ?_;refine aN Z ?_;refine aS ?_;refine z6 (z7 0 Z Z Z Z) Z ?_;obtain⟨x3,hx3,h0⟩:=bS h0;refine z6 (zf fn22 (wV hx3) Z) Z ?_;refine aA Z Z ?_;obtain⟨x4,hx4,h0⟩:=bS h0;refine z6 (zf fn98 (pH hx4) Z) Z ?_;iterate 5 refine aA rfl rfl ?_
 refine aN Z ?_;refine aS ?_;refine z6 (z7 0 Z Z Z Z) Z ?_;obtain⟨x5,hx5,h0⟩:=bS h0;refine z6 (zf fn22 (wV hx5) Z) Z ?_;refine aA Z Z ?_;obtain⟨x6,hx6,h0⟩:=bS h0;refine z6 (zf fn98 (pH hx6) Z) Z ?_;iterate 5 refine aA rfl rfl ?_
 refine aN Z ?_;refine T.seq ?_;refine T.seq ?_;obtain⟨t7,ht7,h0⟩:=bS h0;refine zz (fun S'=>S'=⟨[(40,(dT t7)),(7,(dN 0)),(6,(dP (blk p2))),(3,(dP (blk p1))),(2,.sl 1 (List.map (eI .i64) a2)),(1,.sl 1 (List.map (eI .i64) a1))],[.var (blk p1) [(eOP a0.fRows.fRoot),dT a0.fTail,dN a0.fEnd] 27,.var (blk p2) [(eOP none),dT false,dN 0] 27],69⟩) (fun _ h=>h) ?_ ?_
 ·refine T.region ?_;iterate 3 refine aA rfl rfl ?_
  rcases z9 ht7 with ⟨c8,ht7⟩|⟨c8,ht7⟩;rotate_left
  ·refine TL.off Z Z Z Z (yd (eN c8)) Z Z ?_;refine TL.off Z Z Z Z (yd (eN c8)) Z Z ?_;refine z6 (zt Z (yd (eN c8)) Z) Z ?_;refine aA Z Z ?_;refine TL.off Z Z Z Z Z Z Z ?_;refine TL.off Z Z Z Z Z Z Z ?_;refine TL.off Z Z Z Z Z Z Z ?_;refine TL.off Z Z Z Z Z Z Z ?_;refine z6 (zt Z Z Z) Z ?_;refine TL.nil ?_;obtain rfl:=osi ht7;exact⟨_,Gst.only [1,2,3,6,7,40] Z,Z⟩
  refine TL.on Z Z Z Z (zS (c8)) ?_;refine aA Z Z ?_;refine TL.on Z Z Z Z (zS (c8)) ?_;refine aA Z Z ?_;refine z6 (zu Z (zS (c8)) Z) Z ?_;refine aA Z Z ?_;rcases z9 ht7 with ⟨c9,ht7⟩|⟨c9,ht7⟩;rotate_left
  ·refine TL.off Z Z Z Z (yd (eN c9)) Z Z ?_;refine TL.off Z Z Z Z (yd (eN c9)) Z Z ?_;refine TL.off Z Z Z Z (yd (eN c9)) Z Z ?_;refine TL.off Z Z Z Z (yd (eN c9)) Z Z ?_;refine z6 (zt Z (yd (eN c9)) Z) Z ?_;refine TL.nil ?_;obtain rfl:=osi ht7;exact⟨_,Gst.only [1,2,3,6,7,40] Z,Z⟩
  refine TL.on Z Z Z Z (zS (c9)) ?_;refine aA Z Z ?_;refine TL.on Z Z Z Z (zS (c9)) ?_;refine aA Z Z ?_;refine TL.on Z Z Z Z (zS (c9)) ?_;obtain⟨x10,hx10,ht7⟩:=bS ht7;refine z6 (zf fn99 (rn hx10) Z) Z ?_;refine TL.on Z Z Z Z (zS (c9)) ?_;refine aA Z Z ?_;refine z6 (zu Z (zS (c9)) Z) Z ?_;refine TL.nil ?_;obtain rfl:=osi ht7;exact⟨_,Gst.only [1,2,3,6,7,40] Z,Z⟩
 rintro _ rfl;show T X _ _ _;rcases z9 h0 with ⟨c11,h0⟩|⟨c11,h0⟩
 ·refine zi Z (c11) ?_;refine aS ?_;refine z6 (OpR.build Z Z Z Z Z) Z ?_;refine zy (OpR.store 1 Z Z Z Z Z Z Z Z) ?_;refine aA Z Z ?_;refine aN Z ?_;refine T.ret ?_;obtain rfl:=osi h0;exact rP [] [6,7] [1] Z Z Z undef (cV 0 Z Z Z Z (cT Z ResL.nil)) Z Z Z Z
 refine zh Z (eN c11) ?_;refine aK Z ?_;refine aS ?_;refine aA Z Z ?_;refine z6 (z7 0 Z Z Z Z) Z ?_;obtain⟨x12,hx12,h0⟩:=bS h0;refine TL.op (OpR.call [] fn100 (pO hx12) Z Z Z (fun _=>Z)) Z (fun w13=>?_);refine aA Z Z ?_;refine aN Z ?_;refine T.seq ?_;refine aS ?_;refine aA Z Z ?_;refine z6 (zk (OpR.pure Z) (xh (xX _ _))) Z ?_;refine aA Z Z ?_;refine aN Z ?_;obtain⟨t14,ht14,h0⟩:=bS h0;refine zz (fun S'=>S'=⟨[(12,.val (vn w13 0)),(7,(dN 0)),(6,(dP (blk p2))),(3,(dP (blk p1)))],[.var (blk p1) [(eOP a0.fRows.fRoot),dT a0.fTail,dN a0.fEnd] 27,.var (blk p2) [(eOP none),dT false,dN 0] 27,.row (vn w13 0) (List.map z8 t14) 3 49],69⟩) (fun _ h=>h) ?_ ?_;rotate_left
 ·rintro _ rfl;show T X _ _ _;refine aS ?_;refine aA Z Z ?_;refine TL.ghost (zA 2 Z Z (ReS.cons (Re.base .all) (ReS.refl _)) (ReO.same (ReO.same (ReO.same ReO.nil)))) ?_;obtain⟨x29,hx29,h0⟩:=bS h0;refine z6 (zf fn101 (tz hx29) Z) Z ?_;refine aA Z Z ?_;refine zy (OpR.store 0 Z Z Z Z Z Z Z Z) ?_;refine aN Z ?_;refine aS ?_;refine z6 (z7 0 Z Z Z Z) Z ?_;refine zy (OpR.store 1 Z Z Z Z Z Z Z Z) ?_;refine aA Z Z ?_;refine aN Z ?_;refine T.ret ?_;obtain rfl:=osi h0;exact rP [] [6,7] [1] Z Z Z undef (cV 0 Z Z Z Z (cT Z ResL.nil)) Z Z Z Z
 refine T.block ?_;obtain⟨n16,n21⟩:=zw ht14;refine T.loop (fun n S'=>∃ S'',Gst S' S''∧∃ s15:Int × (List row_Row),S''=⟨[(47,(dN s15.1)),(46,(dN (a1.length:Int))),(45,.sl 1 (List.map (eI .i64) a1)),(12,.val (vn w13 0)),(7,(dN 0)),(6,(dP (blk p2))),(3,(dP (blk p1))),(2,.sl 1 (List.map (eI .i64) a2))],[.var (blk p1) [(eOP a0.fRows.fRoot),dT a0.fTail,dN a0.fEnd] 27,.var (blk p2) [(eOP none),dT false,dN 0] 27,.row (vn w13 0) (List.map z8 s15.2) 3 49],69⟩∧wc (vf.l1 a0 a1 a2) n s15=some t14) n16 ?_ ?_
 ·exact⟨_,Gst.only [2,3,6,7,12,45,46,47] Z,(0,x12),Z,n21⟩
 rintro n16 _ ⟨_,g,s15,rfl,i20⟩;refine T.ghost g ?_;obtain⟨m17,q18,rfl,q19,i20⟩:=zx i20;unfold vf.l1 at q19;refine aS ?_;refine aA Z Z ?_;refine aN Z ?_;refine T.seq ?_;rcases z9 q19 with ⟨c23,q19⟩|⟨c23,q19⟩;rotate_left
 ·refine zh Z (eF c23) ?_;refine T.exit ?_;obtain rfl:=osi q19;obtain rfl:_=_:=i20;exact⟨_,Gst.only [3,6,7,12] Z,Z⟩
 refine zi Z (eT c23) ?_;refine aK Z ?_;refine T.seq ?_;refine T.block ?_;refine aS ?_;refine aA Z Z ?_;obtain⟨x24,hx24,q19⟩:=bS q19;refine z6 (zp (eI .i64) hx24 Z Z Z Z Z) Z ?_;iterate 3 refine aA rfl rfl ?_
 refine aN Z ?_;obtain⟨x26,hx26,q19⟩:=bS q19;obtain⟨x27,hx27,q19⟩:=bS q19;obtain⟨x28,hx28,q19⟩:=bS q19;refine yx zW (fun env25=>[.val (vn w13 0),dN x24,.agg [(eOP a0.fRows.fRoot),dT a0.fTail,dN a0.fEnd],.sl 1 (List.map (eI .i64) a2),dN s15.1,.nod [dN x26],dN x26,.tup [.agg [.sl 5 (List.map zo x27.1.fCells),dN x27.1.fEnd,dT x27.1.fHidden],dT x27.2],.tup [.agg [.sl 5 (List.map zo x27.1.fCells),dN x27.1.fEnd,dT x27.1.fHidden],dT x27.2],.agg [.sl 5 (List.map zo x27.1.fCells),dN x27.1.fEnd,dT x27.1.fHidden],dT x27.2,.val (.pointer (some ⟨blk (vn w13 0),x24.toNat*3,none⟩)),.dead]) (fun D env25=>[.var (blk p1) [(eOP a0.fRows.fRoot),dT a0.fTail,dN a0.fEnd] 27,.var (blk p2) [(eOP none),dT false,dN 0] 27,(bif D 12 then .row (vn w13 0) (List.map z8 (s15.2.set x24.toNat x27.1)) 3 49 else .row (vn w13 0) (List.map z8 s15.2) 3 49)]) [0,0,0,0,0,24,56,124,252,508,508,1023,3071] [2,3,6,7,12,45,46,47] _ (by decide +kernel) (by decide +kernel) (fun _=>Z) (fun _=>Z) ?_ (fun _=>Z) (fun _=>Z) ?_;rotate_left
 ·intro env25;show T X _ _ _;refine T.region ?_;iterate 2 refine aA rfl rfl ?_
  refine TL.nil ?_;obtain rfl:=osi q19;exact⟨m17,Nat.lt_succ_self _,_,Gst.only [2,3,6,7,12,45,46,47] Z,(w64 (s15.1+1),(s15.2.set x24.toNat x27.1)),Z,i20⟩
 iterate 2 refine aC ?_
 refine oT (.agg [(eOP a0.fRows.fRoot),dT a0.fTail,dN a0.fEnd]) (fun _ _=>z7 0 Z Z Z Z) ?_;iterate 2 refine aC ?_
 refine oT (.nod [dN x26]) (fun _ _=>zp (eI .i64) hx26 Z Z Z Z Z) ?_;refine aC ?_;refine oT (.tup [.agg [.sl 5 (List.map zo x27.1.fCells),dN x27.1.fEnd,dT x27.1.fHidden],dT x27.2]) (fun _ _=>zf fn24 (te hx27) Z) ?_;iterate 3 refine aC ?_
 refine zj true ?_ (fun _ _ _ _ _ _ _=>Z) ?_
 ·intro D env25 hA;have e12:D 12=false:=hA.no 12 _ rfl rfl;exact zI [(12,false)] ⟨e12,trivial⟩ (Want.plain Z) (zK z8 2 hx28 Z Z Z Z Z Z Z) (fun x=>Z) (fun x=>Z)
 refine zj true ?_ (fun _ _ _ _ _ _ _=>Z) ?_
 ·intro D env25 hA;exact zI [(12,false)] ⟨hA.me,trivial⟩ (Want.plain Z) (yA (j:=x24) z8 x27.1 2 hx28 Z Z Z Z Z Z Z Z Z) (fun x=>Z) (fun x=>Z)
 exact trivial
noncomputable def tx (a0:grid_Grid) (a1:List order_By) (a2:List UInt8):Option (grid_Grid × Int):=
 bnd (vY a1) fun x2=>
 if x2=true then
 bnd (wR a0) fun x5=>
 bnd (xY a0 a1 a2) fun x6=>
 bnd (vf a0 x5 x6) fun x7=>
 some (x7.1,x7.2)
else
 some ((⟨(⟨none⟩:tTr),false,0⟩:grid_Grid),1)
theorem order_Sort_c {a0:grid_Grid} {a1:List order_By} {a2:List UInt8} {b0:Nat} {v1:Value} {res:grid_Grid × Int} (h0:tx a0 a1 a2=some res):zn X 50 [.agg [(eOP a0.fRows.fRoot),dT a0.fTail,dN a0.fEnd],dP b0,.sl 2 (List.map ze a1)] [.var b0 [.val v1] 264,.row v1 (lB a2) 1 5] (fun x=>.tup [.agg [(eOP res.1.fRows.fRoot),dT res.1.fTail,dN res.1.fEnd],dN res.2]) (fun x=>[.var b0 [.val v1] 264,.row v1 (lB a2) 1 5]):=by
 unfold tx at h0;refine zg (X:=X) Z Tryz.func50 Z Z Tryz.ntmps50 Z Z ?_;refine aS ?_;refine z6 (zD Z Z) Z ?_;refine TL.op (OpR.alloc Z Z (fun _=>Z)) Z (fun p1=>?_);refine aA Z Z ?_;refine aN Z ?_;refine T.seq ?_;refine aS ?_;refine aA Z Z ?_;obtain⟨x2,hx2,h0⟩:=bS h0;refine z6 (zf fn56 (wF hx2) Z) Z ?_;refine aA Z Z ?_;refine aN Z ?_;rcases z9 h0 with ⟨c3,h0⟩|⟨c3,h0⟩;rotate_left
 ·refine zi Z (yd (eN c3)) ?_;refine aS ?_;refine z6 (OpR.build Z Z Z Z Z) Z ?_;refine zy (OpR.store 2 Z Z Z Z Z Z Z Z) ?_;refine aA Z Z ?_;refine aN Z ?_;refine T.ret ?_;obtain rfl:=osi h0;exact rO [0,1] [6,7] Z undef (cV 2 Z Z Z Z (cT Z ResL.nil)) Z Z Z Z
 refine zh Z (zS (c3)) ?_;refine aK Z ?_;refine T.seq ?_;obtain⟨x5,hx5,h0⟩:=bS h0;obtain⟨x6,hx6,h0⟩:=bS h0;obtain⟨x7,hx7,h0⟩:=bS h0;refine yx zW (fun env4=>[.agg [(eOP a0.fRows.fRoot),dT a0.fTail,dN a0.fEnd],.agg [(eOP a0.fRows.fRoot),dT a0.fTail,dN a0.fEnd],.sl 1 (List.map (eI .i64) x5),.agg [(eOP a0.fRows.fRoot),dT a0.fTail,dN a0.fEnd],dP b0,.sl 2 (List.map ze a1),.sl 1 (List.map (eI .i64) x6),.tup [.agg [(eOP x7.1.fRows.fRoot),dT x7.1.fTail,dN x7.1.fEnd],dN x7.2],.agg [(eOP x7.1.fRows.fRoot),dT x7.1.fTail,dN x7.1.fEnd],dN x7.2,.dead,dN x7.2]) (fun D env4=>[.var b0 [.val v1] 264,.row v1 (lB a2) 1 5,(bif D 10 then .var (blk p1) [(eOP x7.1.fRows.fRoot),dT x7.1.fTail,dN x7.1.fEnd] 27 else .var (blk p1) [(eOP none),dT false,dN 0] 27)]) [0,0,2,0,0,0,62,127,255,255,1023,2047] [6,7] _ (by decide +kernel) (by decide +kernel) (fun _=>Z) (fun _=>Z) ?_ (fun _=>Z) (fun _=>Z) ?_;rotate_left
 ·intro env4;show T X _ _ _;refine T.ret ?_;obtain rfl:=osi h0;exact rO [0,1] [6,7] Z undef (cV 2 Z Z Z Z (cT Z ResL.nil)) Z Z Z Z
 iterate 2 refine aC ?_
 refine oT (.sl 1 (List.map (eI .i64) x5)) (fun _ _=>zf fn51 (sL hx5) Z) ?_;iterate 3 refine aC ?_
 refine zj true ?_ (fun _ _ _ _ _ _ _=>Z) ?_
 ·intro D env4 hA;have e10:D 10=false:=hA.no 10 _ rfl rfl;exact zI [(10,false)] ⟨e10,trivial⟩ (Want.plain Z) (OpR.call [0,1] fn59 (uK hx6) Z Z Z (fun _=>Z)) (fun x=>Z) (fun x=>Z)
 refine oT (.tup [.agg [(eOP x7.1.fRows.fRoot),dT x7.1.fTail,dN x7.1.fEnd],dN x7.2]) (fun _ _=>zf fn40 (order_Put_c hx7) Z) ?_;iterate 2 refine aC ?_
 refine zj true ?_ (fun _ _ _ _ _ _ _=>Z) ?_
 ·intro D env4 hA;exact zI [(10,false)] ⟨hA.me,trivial⟩ (Want.plain Z) (OpR.store 2 Z Z Z Z Z Z Z Z) (fun x=>Z) (fun x=>Z)
 refine aC ?_;exact trivial
noncomputable def xB.l1 (a0:List ref16_By) (s3:Int):Option (Lp Int (Ex Unit Bool)):=
 if s3<(a0.length:Int) then
 bnd (idx a0 s3) fun x12=>
 bnd (if x12.fCol<0 then
 some true
else
 some (decide (x12.fCol>39)):Option Bool) fun t14=>
 if t14=true then
 some (Lp.done (Ex.ret false))
else
 some (Lp.next (w64 (s3+1)))
else
 some (Lp.done (Ex.brk ()))
noncomputable def xB (a0:List ref16_By):Option Bool:=
 bnd (loop (xB.l1 a0) 0:Option (Ex Unit Bool)) fun t1=>match t1 with
| .brk u2=>
 some (decide ((a0.length:Int)>0))
| .ret u2=>some u2
theorem wE {a0:List ref16_By} {res:Bool} (h0:xB a0=some res):zn X 57 [.sl 2 (List.map zP a0)] [] (fun x=>(dT res)) (fun x=>[]):=by
 unfold xB at h0;refine zg (X:=X) Z Tryz.func57 Z Z Tryz.ntmps57 Z Z ?_;refine aS ?_;refine aA Z Z ?_;refine aN Z ?_;refine T.seq ?_;refine aS ?_;refine aA Z Z ?_;refine z6 (zk (OpR.pure Z) (xh (xX _ _))) Z ?_;refine aA Z Z ?_;refine aN Z ?_;obtain⟨t1,ht1,h0⟩:=bS h0;refine zz (fun S'=>∃ u2,t1=Ex.brk u2∧S'=⟨[(2,(dT false)),(0,.sl 2 (List.map zP a0))],[],23⟩) (fun _ h=>h) ?_ ?_;rotate_left
 ·rintro _ ⟨u2,rfl,rfl⟩;show T X _ _ _;refine aS ?_;refine aA Z Z ?_;refine z6 (zk (OpR.pure Z) (xh (xX _ _))) Z ?_;iterate 2 refine aA rfl rfl ?_
  refine aN Z ?_;refine T.ret ?_;obtain rfl:=osi h0;exact rO [] [2] Z undef (cT Z ResL.nil) Z Z Z Z
 refine T.block ?_;obtain⟨n4,n9⟩:=zw ht1;refine T.loop (fun n S'=>∃ S'',Gst S' S''∧∃ s3:Int,S''=⟨[(7,(dN s3)),(6,(dN (a0.length:Int))),(5,.sl 2 (List.map zP a0)),(2,(dT false)),(0,.sl 2 (List.map zP a0))],[],23⟩∧wc (xB.l1 a0) n s3=some t1) n4 ?_ ?_
 ·exact⟨_,Gst.only [0,2,5,6,7] Z,0,Z,n9⟩
 rintro n4 _ ⟨_,g,s3,rfl,i8⟩;refine T.ghost g ?_;obtain⟨m5,q6,rfl,q7,i8⟩:=zx i8;unfold xB.l1 at q7;refine aS ?_;refine aA Z Z ?_;refine aN Z ?_;refine T.seq ?_;rcases z9 q7 with ⟨c11,q7⟩|⟨c11,q7⟩;rotate_left
 ·refine zh Z (eF c11) ?_;refine T.exit ?_;obtain rfl:=osi q7;obtain rfl:_=_:=i8;exact⟨_,Gst.only [0,2] Z,_,Z,Z⟩
 refine zi Z (eT c11) ?_;refine aK Z ?_;refine T.seq ?_;refine T.block ?_;refine aS ?_;obtain⟨x12,hx12,q7⟩:=bS q7;refine z6 (zp zP hx12 Z Z Z Z Z) Z ?_;refine aA Z Z ?_;refine TL.op (OpR.alloc Z Z (fun _=>Z)) Z (fun p13=>?_);refine zy (OpR.store 0 Z Z Z Z Z Z Z Z) ?_;refine aN Z ?_;refine T.seq ?_;obtain⟨t14,ht14,q7⟩:=bS q7;refine zz (fun S'=>S'=⟨[(18,(dT t14)),(7,(dN s3)),(6,(dN (a0.length:Int))),(5,.sl 2 (List.map zP a0)),(2,(dT false)),(0,.sl 2 (List.map zP a0))],[],23⟩) (fun _ h=>h) ?_ ?_;rotate_left
 ·rintro _ rfl;show T X _ _ _;rcases z9 q7 with ⟨c16,q7⟩|⟨c16,q7⟩;rotate_left
  ·refine zh Z (eN c16) ?_;refine aK Z ?_;refine T.region ?_;iterate 2 refine aA rfl rfl ?_
   refine TL.nil ?_;obtain rfl:=osi q7;exact⟨m5,Nat.lt_succ_self _,_,Gst.only [0,2,5,6,7] Z,w64 (s3+1),Z,i8⟩
  refine zi Z (c16) ?_;refine aS ?_;refine aA Z Z ?_;refine aN Z ?_;refine T.ret ?_;obtain rfl:=osi q7;obtain rfl:_=_:=i8;obtain rfl:=osi h0;exact rO [] [2] Z undef (cT Z ResL.nil) Z Z Z Z
 refine T.region ?_;refine aA Z Z ?_;refine z6 (z7 0 Z Z Z Z) Z ?_;iterate 2 refine aA rfl rfl ?_
 rcases z9 ht14 with ⟨c15,ht14⟩|⟨c15,ht14⟩
 ·refine TL.off Z Z Z Z (eT c15) Z Z ?_;refine TL.off Z Z Z Z (eT c15) Z Z ?_;refine TL.off Z Z Z Z (eT c15) Z Z ?_;refine z6 (zt Z (eT c15) Z) Z ?_;refine TL.nil ?_;obtain rfl:=osi ht14;exact⟨_,gP [0,2,5,6,7,18] [] Z Z Z,Z⟩
 refine TL.on Z Z Z Z (eF c15) ?_;refine aA Z Z ?_;refine TL.on Z Z Z Z (eF c15) ?_;refine z6 (z7 0 Z Z Z Z) Z ?_;refine TL.on Z Z Z Z (eF c15) ?_;refine aA Z Z ?_;refine z6 (zu Z (eF c15) Z) Z ?_;refine TL.nil ?_;obtain rfl:=osi ht14;exact⟨_,gP [0,2,5,6,7,18] [] Z Z Z,Z⟩
noncomputable def yW.l1 (a0:ref11_Grid) (s4:Int × (List Int)):Option (Lp (Int × (List Int)) (List Int)):=
 if s4.1<(a0.fRows.length:Int) then
 bnd (idx a0.fRows s4.1) fun x13=>
 bnd (if x13.fHidden=true then
 some s4.2
else
 bnd (app 8 s4.2 [s4.1]) fun x18=>
 some x18:Option (List Int)) fun t15=>
 some (Lp.next (w64 (s4.1+1),t15))
else
 some (Lp.done s4.2)
noncomputable def yW (a0:ref11_Grid):Option (List Int):=
 bnd (loop (yW.l1 a0) (0,[]):Option (List Int)) fun t1=>
 some t1
theorem sF {a0:ref11_Grid} {res:(List Int)} (h0:yW a0=some res):zn X 63 [.agg [.sl 3 (List.map zb a0.fRows),dT a0.fTail,dN a0.fEnd]] [] (fun x=>.sl 1 (List.map (eI .i64) res)) (fun x=>[]):=by
 unfold yW at h0;refine zg (X:=X) Z Tryz.func63 Z Z Tryz.ntmps63 Z Z ?_;refine aS ?_;refine z6 (zD Z Z) Z ?_;refine aA Z Z ?_;refine aN Z ?_;refine aS ?_;refine aA Z Z ?_;refine aN Z ?_;refine T.seq ?_;refine aS ?_;iterate 2 refine aA rfl rfl ?_
 refine z6 (zk (OpR.pure Z) (xh (xX _ _))) Z ?_;refine aA Z Z ?_;refine aN Z ?_;obtain⟨t1,ht1,h0⟩:=bS h0;refine zz (fun S'=>∃ y2:Value,S'=⟨[(3,.val y2),(2,.val (.slice none 0 0))],[.row y2 (List.map (eI .i64) t1) 1 3],23⟩) (fun _ h=>h) ?_ ?_;rotate_left
 ·rintro _ ⟨y2,rfl⟩;show T X _ _ _;refine aS ?_;iterate 2 refine aA rfl rfl ?_
  refine aN Z ?_;refine T.ret ?_;obtain rfl:=osi h0;exact zC (ks:=[]) (Gst.trans (Gst.only [2] Z) (Gst.trans (zA 0 Z Z (ReS.cons (Re.base .all) ReS.nil) (ReO.same ReO.nil)) (Gst.pick [] Z Z))) undef (cT Z ResL.nil) Z Z Z Z
 refine T.block ?_;obtain⟨n5,n10⟩:=zw ht1;refine T.loop (fun n S'=>∃ S'',Gst S' S''∧∃ y3:Value,∃ s4:Int × (List Int),S''=⟨[(9,(dN s4.1)),(8,(dN (a0.fRows.length:Int))),(7,.sl 3 (List.map zb a0.fRows)),(3,.val y3),(2,.val (.slice none 0 0))],[.row y3 (List.map (eI .i64) s4.2) 1 3],23⟩∧wc (yW.l1 a0) n s4=some t1) n5 ?_ ?_
 ·exact⟨_,Gst.trans (Gst.only [2,3,7,8,9] Z) (ya (ow:=[]) 1 3 Z),(.slice none 0 0),(0,[]),Z,n10⟩
 rintro n5 _ ⟨_,g,y3,s4,rfl,i9⟩;refine T.ghost g ?_;obtain⟨m6,q7,rfl,q8,i9⟩:=zx i9;unfold yW.l1 at q8;refine aS ?_;refine aA Z Z ?_;refine aN Z ?_;refine T.seq ?_;rcases z9 q8 with ⟨c12,q8⟩|⟨c12,q8⟩;rotate_left
 ·refine zh Z (eF c12) ?_;refine T.exit ?_;obtain rfl:=osi q8;obtain rfl:_=_:=i9;exact⟨_,Gst.only [2,3] Z,y3,Z⟩
 refine zi Z (eT c12) ?_;refine aK Z ?_;refine T.seq ?_;refine T.block ?_;refine aS ?_;refine aA Z Z ?_;obtain⟨x13,hx13,q8⟩:=bS q8;refine z6 (zp zb hx13 Z Z Z Z Z) Z ?_;refine aA Z Z ?_;refine TL.op (OpR.alloc Z Z (fun _=>Z)) Z (fun p14=>?_);refine aA Z Z ?_;refine zy (OpR.store 1 Z Z Z Z Z Z Z Z) ?_;refine aN Z ?_;refine aS ?_;refine aA Z Z ?_;refine z6 (z7 1 Z Z Z Z) Z ?_;refine aA Z Z ?_;refine aN Z ?_;obtain⟨t15,ht15,q8⟩:=bS q8;refine zz (fun S'=>∃ y16:Value,S'=⟨[(9,(dN s4.1)),(8,(dN (a0.fRows.length:Int))),(7,.sl 3 (List.map zb a0.fRows)),(3,.val y16),(2,.val (.slice none 0 0))],[.row y16 (List.map (eI .i64) t15) 1 3],23⟩) (fun _ h=>h) ?_ ?_;rotate_left
 ·rintro _ ⟨y16,rfl⟩;show T X _ _ _;refine T.region ?_;iterate 2 refine aA rfl rfl ?_
  refine TL.nil ?_;obtain rfl:=osi q8;exact⟨m6,Nat.lt_succ_self _,_,Gst.only [2,3,7,8,9] Z,y16,(w64 (s4.1+1),t15),Z,i9⟩
 rcases z9 ht15 with ⟨c17,ht15⟩|⟨c17,ht15⟩
 ·refine zh Z (zS (c17)) ?_;refine T.skip ?_;obtain rfl:=osi ht15;exact⟨_,gP [2,3,7,8,9] [0] Z Z Z,y3,Z⟩
 refine zi Z (yd (eN c17)) ?_;refine T.region ?_;iterate 2 refine aA rfl rfl ?_
 refine z6 (yC Z Z Z Z Z Z Z) Z ?_;obtain⟨x18,hx18,ht15⟩:=bS ht15;refine TL.op (zH (m:=[s4.1]) (eI .i64) 0 hx18 Z Z Z Z Z Z Z Z Z (fun _=>Z)) Z (fun v19=>?_);refine aA Z Z ?_;refine TL.nil ?_;obtain rfl:=osi ht15;exact⟨_,gP [2,3,7,8,9] [0] Z Z Z,v19,Z⟩
noncomputable def se (a0:ref08_Row) (a1:Int):Option (List UInt8):=
 bnd (if a1<0 then
 some true
else
 some (decide (a1≥(a0.fCells.length:Int))):Option Bool) fun t1=>
 if t1=true then
 some []
else
 bnd (idx a0.fCells a1) fun x4=>
 some x4.fS
theorem ref16_text_c {a0:ref08_Row} {a1:Int} {res:(List UInt8)} (h0:se a0 a1=some res):zn X 110 [.agg [.sl 3 (List.map zB a0.fCells),dN a0.fEnd,dT a0.fHidden],dN a1] [] (fun x=>.val (.string (bs res))) (fun x=>[]):=by
 unfold se at h0;refine zg (X:=X) Z Tryz.func110 Z Z Tryz.ntmps110 Z Z ?_;refine aS ?_;refine z6 (zD Z Z) Z ?_;refine aA Z Z ?_;refine aN Z ?_;refine T.seq ?_;refine T.seq ?_;obtain⟨t1,ht1,h0⟩:=bS h0;refine zz (fun S'=>S'=⟨[(13,(dT t1)),(4,.val (.string (bs []))),(2,.nod [.sl 3 (List.map zB a0.fCells),dN a0.fEnd,dT a0.fHidden]),(1,(dN a1))],[],20⟩) (fun _ h=>h) ?_ ?_;rotate_left
 ·rintro _ rfl;show T X _ _ _;rcases z9 h0 with ⟨c3,h0⟩|⟨c3,h0⟩
  ·refine zi Z (c3) ?_;refine aS ?_;refine aA Z Z ?_;refine aN Z ?_;refine T.ret ?_;obtain rfl:=osi h0;exact rO [] [4] Z undef (cT Z ResL.nil) Z Z Z Z
  refine zh Z (eN c3) ?_;refine aK Z ?_;refine aS ?_;iterate 3 refine aA rfl rfl ?_
  obtain⟨x4,hx4,h0⟩:=bS h0;refine z6 (zp zB hx4 Z Z Z Z Z) Z ?_;iterate 3 refine aA rfl rfl ?_
  refine aN Z ?_;refine T.ret ?_;obtain rfl:=osi h0;exact rO [] [4] Z undef (cT Z ResL.nil) Z Z Z Z
 refine T.region ?_;iterate 3 refine aA rfl rfl ?_
 rcases z9 ht1 with ⟨c2,ht1⟩|⟨c2,ht1⟩
 ·refine TL.off Z Z Z Z (eT c2) Z Z ?_;refine TL.off Z Z Z Z (eT c2) Z Z ?_;refine TL.off Z Z Z Z (eT c2) Z Z ?_;refine TL.off Z Z Z Z (eT c2) Z Z ?_;refine TL.off Z Z Z Z (eT c2) Z Z ?_;refine z6 (zt Z (eT c2) Z) Z ?_;refine TL.nil ?_;obtain rfl:=osi ht1;exact⟨_,Gst.only [1,2,4,13] Z,Z⟩
 refine TL.on Z Z Z Z (eF c2) ?_;refine aA Z Z ?_;refine TL.on Z Z Z Z (eF c2) ?_;refine aA Z Z ?_;refine TL.on Z Z Z Z (eF c2) ?_;refine aA Z Z ?_;refine TL.on Z Z Z Z (eF c2) ?_;refine z6 (zk (OpR.pure Z) (xh (xX _ _))) Z ?_;refine TL.on Z Z Z Z (eF c2) ?_;refine aA Z Z ?_;refine z6 (zu Z (eF c2) Z) Z ?_;refine TL.nil ?_;obtain rfl:=osi ht1;exact⟨_,Gst.only [1,2,4,13] Z,Z⟩
noncomputable def sx (a0:UInt8):Option Bool:=
 bnd (if (a0.toNat:Int)≥48 then
 some (decide ((a0.toNat:Int)≤57))
else
 some false:Option Bool) fun t1=>
 some t1
theorem ref02_Digit_c {a0:UInt8} {res:Bool} (h0:sx a0=some res):zn X 217 [.val (.int .u8 (a0.toNat:Int))] [] (fun x=>(dT res)) (fun x=>[]):=by
 unfold sx at h0;refine zg (X:=X) Z Tryz.func217 Z Z Tryz.ntmps217 Z Z ?_;refine aS ?_;refine aA Z Z ?_;refine aN Z ?_;refine T.seq ?_;obtain⟨t1,ht1,h0⟩:=bS h0;refine zz (fun S'=>S'=⟨[(2,(dT t1))],[],9⟩) (fun _ h=>h) ?_ ?_;rotate_left
 ·rintro _ rfl;show T X _ _ _;refine T.ret ?_;obtain rfl:=osi h0;exact rO [] [2] Z undef (cT Z ResL.nil) Z Z Z Z
 refine T.region ?_;iterate 3 refine aA rfl rfl ?_
 rcases z9 ht1 with ⟨c2,ht1⟩|⟨c2,ht1⟩;rotate_left
 ·refine TL.off Z Z Z Z (eF c2) Z Z ?_;refine TL.off Z Z Z Z (eF c2) Z Z ?_;refine z6 (zu Z (eF c2) Z) Z ?_;refine aA Z Z ?_;refine TL.nil ?_;obtain rfl:=osi ht1;exact⟨_,Gst.only [2] Z,Z⟩
 refine TL.on Z Z Z Z (eT c2) ?_;refine aA Z Z ?_;refine TL.on Z Z Z Z (eT c2) ?_;refine aA Z Z ?_;refine z6 (zt Z (eT c2) Z) Z ?_;refine aA Z Z ?_;refine TL.nil ?_;obtain rfl:=osi ht1;exact⟨_,Gst.only [2] Z,Z⟩
noncomputable def wM.l1 (s2:(List UInt8)):Option (Lp (List UInt8) (List UInt8)):=
 bnd (if (s2.length:Int)>1 then
 bnd (idx s2 0) fun x12=>
 some ((x12.toNat:Int)==48)
else
 some false:Option Bool) fun t10=>
 if t10=true then
 bnd (cut s2 1 (s2.length:Int)) fun x14=>
 some (Lp.next x14)
else
 some (Lp.done s2)
noncomputable def wM (a0:List UInt8):Option (List UInt8):=
 bnd (loop wM.l1 a0:Option (List UInt8)) fun t1=>
 some t1
theorem ref02_bare_c {a0:List UInt8} {res:(List UInt8)} (h0:wM a0=some res):zn X 218 [.val (.string (bs a0))] [] (fun x=>.val (.string (bs res))) (fun x=>[]):=by
 unfold wM at h0;refine zg (X:=X) Z Tryz.func218 Z Z Tryz.ntmps218 Z Z ?_;refine aS ?_;refine aA Z Z ?_;refine aN Z ?_;refine T.seq ?_;obtain⟨t1,ht1,h0⟩:=bS h0;refine zz (fun S'=>S'=⟨[(2,.val (.string (bs []))),(0,.val (.string (bs t1)))],[],14⟩) (fun _ h=>h) ?_ ?_;rotate_left
 ·rintro _ rfl;show T X _ _ _;refine aS ?_;iterate 2 refine aA rfl rfl ?_
  refine aN Z ?_;refine T.ret ?_;obtain rfl:=osi h0;exact rO [] [2] Z undef (cT Z ResL.nil) Z Z Z Z
 refine T.block ?_;obtain⟨n3,n8⟩:=zw ht1;refine T.loop (fun n S'=>∃ S'',Gst S' S''∧∃ s2:(List UInt8),S''=⟨[(2,.val (.string (bs []))),(0,.val (.string (bs s2)))],[],14⟩∧wc wM.l1 n s2=some t1) n3 ?_ ?_
 ·exact⟨_,Gst.only [0,2] Z,a0,Z,n8⟩
 rintro n3 _ ⟨_,g,s2,rfl,i7⟩;refine T.ghost g ?_;obtain⟨m4,q5,rfl,q6,i7⟩:=zx i7;unfold wM.l1 at q6;refine T.seq ?_;refine T.seq ?_;obtain⟨t10,ht10,q6⟩:=bS q6;refine zz (fun S'=>S'=⟨[(10,(dT t10)),(2,.val (.string (bs []))),(0,.val (.string (bs s2)))],[],14⟩) (fun _ h=>h) ?_ ?_;rotate_left
 ·rintro _ rfl;show T X _ _ _;rcases z9 q6 with ⟨c13,q6⟩|⟨c13,q6⟩;rotate_left
  ·refine zh Z (eN c13) ?_;refine T.exit ?_;obtain rfl:=osi q6;obtain rfl:_=_:=i7;exact⟨_,Gst.only [0,2] Z,Z⟩
  refine zi Z (c13) ?_;refine aK Z ?_;refine T.block ?_;refine T.region ?_;refine aA Z Z ?_;obtain⟨x14,hx14,q6⟩:=bS q6;refine z6 (rk hx14 Z Z Z (BdM.some Z) BdM.none) Z ?_;refine aA Z Z ?_;refine TL.nil ?_;obtain rfl:=osi q6;exact⟨m4,Nat.lt_succ_self _,_,Gst.only [0,2] Z,x14,Z,i7⟩
 refine T.region ?_;refine aA Z Z ?_;refine z6 (zk (OpR.pure Z) (xh (lenS _))) Z ?_;iterate 2 refine aA rfl rfl ?_
 rcases z9 ht10 with ⟨c11,ht10⟩|⟨c11,ht10⟩;rotate_left
 ·refine TL.off Z Z Z Z (eF c11) Z Z ?_;refine TL.off Z Z Z Z (eF c11) Z Z ?_;refine TL.off Z Z Z Z (eF c11) Z Z ?_;refine z6 (zu Z (eF c11) Z) Z ?_;refine TL.nil ?_;obtain rfl:=osi ht10;exact⟨_,Gst.only [0,2,10] Z,Z⟩
 refine TL.on Z Z Z Z (eT c11) ?_;refine aA Z Z ?_;refine TL.on Z Z Z Z (eT c11) ?_;obtain⟨x12,hx12,ht10⟩:=bS ht10;refine z6 (wh hx12 Z Z Z Z) Z ?_;refine TL.on Z Z Z Z (eT c11) ?_;refine aA Z Z ?_;refine z6 (zt Z (eT c11) Z) Z ?_;refine TL.nil ?_;obtain rfl:=osi ht10;exact⟨_,Gst.only [0,2,10] Z,Z⟩
noncomputable def sf (a0:List UInt8) (a1:List UInt8):Option Bool:=
 bnd (if (a0.length:Int)<(a1.length:Int) then
 some true
else
 if (a0.length:Int)=(a1.length:Int) then
 some (Op.bytesLess a0 a1)
else
 some false:Option Bool) fun t1=>
 some t1
theorem ref02_less_c {a0:List UInt8} {a1:List UInt8} {res:Bool} (h0:sf a0 a1=some res):zn X 219 [.val (.string (bs a0)),.val (.string (bs a1))] [] (fun x=>(dT res)) (fun x=>[]):=by
 unfold sf at h0;refine zg (X:=X) Z Tryz.func219 Z Z Tryz.ntmps219 Z Z ?_;refine aS ?_;refine aA Z Z ?_;refine aN Z ?_;refine T.seq ?_;obtain⟨t1,ht1,h0⟩:=bS h0;refine zz (fun S'=>S'=⟨[(4,(dT t1))],[],22⟩) (fun _ h=>h) ?_ ?_;rotate_left
 ·rintro _ rfl;show T X _ _ _;refine T.ret ?_;obtain rfl:=osi h0;exact rO [] [4] Z undef (cT Z ResL.nil) Z Z Z Z
 refine T.region ?_;refine aA Z Z ?_;refine z6 (zk (OpR.pure Z) (xh (lenS _))) Z ?_;refine aA Z Z ?_;refine z6 (zk (OpR.pure Z) (xh (lenS _))) Z ?_;iterate 2 refine aA rfl rfl ?_
 rcases z9 ht1 with ⟨c2,ht1⟩|⟨c2,ht1⟩
 ·refine TL.off Z Z Z Z (eT c2) Z Z ?_;refine TL.off Z Z Z Z (eT c2) Z Z ?_;refine TL.off Z Z Z Z (eT c2) Z Z ?_;refine TL.off Z Z Z Z (eT c2) Z Z ?_;refine TL.off Z Z Z Z (eT c2) Z Z ?_;refine TL.off Z Z Z Z (eT c2) Z Z ?_;refine sT Z Z Z Z Z Z ?_;refine sT Z Z Z Z Z Z ?_;refine sT Z Z Z Z Z Z ?_;refine TL.off Z Z Z Z (eT c2) Z Z ?_;refine z6 (zt Z (eT c2) Z) Z ?_;refine aA Z Z ?_;refine TL.nil ?_;obtain rfl:=osi ht1;exact⟨_,Gst.only [4] Z,Z⟩
 refine TL.on Z Z Z Z (eF c2) ?_;refine aA Z Z ?_;refine TL.on Z Z Z Z (eF c2) ?_;refine z6 (zk (OpR.pure Z) (xh (lenS _))) Z ?_;refine TL.on Z Z Z Z (eF c2) ?_;refine aA Z Z ?_;refine TL.on Z Z Z Z (eF c2) ?_;refine z6 (zk (OpR.pure Z) (xh (lenS _))) Z ?_;refine TL.on Z Z Z Z (eF c2) ?_;refine aA Z Z ?_;refine TL.on Z Z Z Z (eF c2) ?_;refine aA Z Z ?_;rcases z9 ht1 with ⟨c3,ht1⟩|⟨c3,ht1⟩;rotate_left
 ·refine TL.off Z Z Z Z (beq_eq_false_iff_ne.2 c3) Z Z ?_;refine TL.off Z Z Z Z (beq_eq_false_iff_ne.2 c3) Z Z ?_;refine TL.off Z Z Z Z (beq_eq_false_iff_ne.2 c3) Z Z ?_;refine TL.on Z Z Z Z (eF c2) ?_;refine z6 (zu Z (beq_eq_false_iff_ne.2 c3) Z) Z ?_;refine z6 (zu Z (eF c2) Z) Z ?_;refine aA Z Z ?_;refine TL.nil ?_;obtain rfl:=osi ht1;exact⟨_,Gst.only [4] Z,Z⟩
 refine TL.on Z Z Z Z (beq_iff_eq.2 c3) ?_;refine aA Z Z ?_;refine TL.on Z Z Z Z (beq_iff_eq.2 c3) ?_;refine aA Z Z ?_;refine TL.on Z Z Z Z (beq_iff_eq.2 c3) ?_;refine z6 (zk (OpR.pure Z) (boolE (strLt _ _))) Z ?_;refine TL.on Z Z Z Z (eF c2) ?_;refine z6 (zt Z (beq_iff_eq.2 c3) Z) Z ?_;refine z6 (zu Z (eF c2) Z) Z ?_;refine aA Z Z ?_;refine TL.nil ?_;obtain rfl:=osi ht1;exact⟨_,Gst.only [4] Z,Z⟩
noncomputable def yy.l1 (t5:(List UInt8) × Bool) (s12:Int):Option (Lp Int (Ex Unit (Int × Bool))):=
 if s12<(t5.1.length:Int) then
 bnd (idx t5.1 s12) fun x21=>
 bnd (sx x21) fun x22=>
 if x22=true then
 some (Lp.next (w64 (s12+1)))
else
 some (Lp.done (Ex.ret (0,false)))
else
 some (Lp.done (Ex.brk ()))
noncomputable def yy.l2 (t5:(List UInt8) × Bool) (x24:(List UInt8)) (s30:Int × Int):Option (Lp (Int × Int) Int):=
 if s30.2<(x24.length:Int) then
 bnd (if t5.2=true then
 bnd (idx x24 s30.2) fun x41=>
 some (w64 ((w64 (s30.1*10))-(w64 ((x41.toNat:Int)-48))))
else
 bnd (idx x24 s30.2) fun x42=>
 some (w64 ((w64 ((w64 (s30.1*10))+(x42.toNat:Int)))-48)):Option Int) fun t39=>
 some (Lp.next (t39,w64 (s30.2+1)))
else
 some (Lp.done s30.1)
noncomputable def yy (a0:List UInt8):Option (Int × Bool):=
 bnd (if (a0.length:Int)>0 then
 bnd (idx a0 0) fun x3=>
 if (x3.toNat:Int)=43 then
 some true
else
 some ((x3.toNat:Int)==45)
else
 some false:Option Bool) fun t1=>
 bnd (if t1=true then
 bnd (idx a0 0) fun x7=>
 bnd (cut a0 1 (a0.length:Int)) fun x8=>
 some (x8,((x7.toNat:Int)==45))
else
 some (a0,false):Option ((List UInt8) × Bool)) fun t5=>
 if t5.1=[] then
 some (0,false)
else
 bnd (loop (yy.l1 t5) 0:Option (Ex Unit (Int × Bool))) fun t10=>match t10 with
| .brk u11=>
 bnd (wM t5.1) fun x24=>
 bnd (if t5.2=true then
 some [57,50,50,51,51,55,50,48,51,54,56,53,52,55,55,53,56,48,56]
else
 some [57,50,50,51,51,55,50,48,51,54,56,53,52,55,55,53,56,48,55]:Option (List UInt8)) fun t25=>
 bnd (sf t25 x24) fun x27=>
 if x27=true then
 some (0,false)
else
 bnd (loop (yy.l2 t5 x24) (0,0):Option Int) fun t29=>
 some (t29,true)
| .ret u11=>some u11
theorem pF {a0:List UInt8} {res:Int × Bool} (h0:yy a0=some res):zn X 174 [.val (.string (bs a0))] [] (fun x=>.tup [dN res.1,dT res.2]) (fun x=>[]):=by
 unfold yy at h0;refine zg (X:=X) Z Tryz.func174 Z Z Tryz.ntmps174 Z Z ?_;refine aS ?_;iterate 2 refine aA rfl rfl ?_
 refine aN Z ?_;refine aS ?_;refine aA Z Z ?_;refine aN Z ?_;refine T.seq ?_;refine T.seq ?_;obtain⟨t1,ht1,h0⟩:=bS h0;refine zz (fun S'=>S'=⟨[(21,(dT t1)),(4,(dT false)),(3,(dT false)),(2,(dN 0)),(0,.val (.string (bs a0)))],[],70⟩) (fun _ h=>h) ?_ ?_
 ·refine T.region ?_;refine aA Z Z ?_;refine z6 (zk (OpR.pure Z) (xh (lenS _))) Z ?_;iterate 2 refine aA rfl rfl ?_
  rcases z9 ht1 with ⟨c2,ht1⟩|⟨c2,ht1⟩;rotate_left
  ·refine TL.off Z Z Z Z (eF c2) Z Z ?_;refine TL.off Z Z Z Z (eF c2) Z Z ?_;refine TL.off Z Z Z Z (eF c2) Z Z ?_;refine TL.off Z Z Z Z (eF c2) Z Z ?_;refine sT Z Z Z Z Z Z ?_;refine sT Z Z Z Z Z Z ?_;refine sT Z Z Z Z Z Z ?_;refine TL.off Z Z Z Z (eF c2) Z Z ?_;refine z6 (zu Z (eF c2) Z) Z ?_;refine TL.nil ?_;obtain rfl:=osi ht1;exact⟨_,Gst.only [0,2,3,4,21] Z,Z⟩
  refine TL.on Z Z Z Z (eT c2) ?_;refine aA Z Z ?_;refine TL.on Z Z Z Z (eT c2) ?_;obtain⟨x3,hx3,ht1⟩:=bS ht1;refine z6 (wh hx3 Z Z Z Z) Z ?_;refine TL.on Z Z Z Z (eT c2) ?_;refine aA Z Z ?_;refine TL.on Z Z Z Z (eT c2) ?_;refine aA Z Z ?_;rcases z9 ht1 with ⟨c4,ht1⟩|⟨c4,ht1⟩
  ·refine TL.off Z Z Z Z (beq_iff_eq.2 c4) Z Z ?_;refine TL.off Z Z Z Z (beq_iff_eq.2 c4) Z Z ?_;refine TL.off Z Z Z Z (beq_iff_eq.2 c4) Z Z ?_;refine TL.on Z Z Z Z (eT c2) ?_;refine z6 (zt Z (beq_iff_eq.2 c4) Z) Z ?_;refine z6 (zt Z (eT c2) Z) Z ?_;refine TL.nil ?_;obtain rfl:=osi ht1;exact⟨_,Gst.only [0,2,3,4,21] Z,Z⟩
  refine TL.on Z Z Z Z (beq_eq_false_iff_ne.2 c4) ?_;refine aA Z Z ?_;refine TL.on Z Z Z Z (beq_eq_false_iff_ne.2 c4) ?_;refine z6 (wh hx3 Z Z Z Z) Z ?_;refine TL.on Z Z Z Z (beq_eq_false_iff_ne.2 c4) ?_;refine aA Z Z ?_;refine TL.on Z Z Z Z (eT c2) ?_;refine z6 (zu Z (beq_eq_false_iff_ne.2 c4) Z) Z ?_;refine z6 (zt Z (eT c2) Z) Z ?_;refine TL.nil ?_;obtain rfl:=osi ht1;exact⟨_,Gst.only [0,2,3,4,21] Z,Z⟩
 rintro _ rfl;show T X _ _ _;obtain⟨t5,ht5,h0⟩:=bS h0;refine zz (fun S'=>S'=⟨[(4,(dT t5.2)),(3,(dT false)),(2,(dN 0)),(0,.val (.string (bs t5.1)))],[],70⟩) (fun _ h=>h) ?_ ?_
 ·rcases z9 ht5 with ⟨c6,ht5⟩|⟨c6,ht5⟩;rotate_left
  ·refine zh Z (eN c6) ?_;refine T.skip ?_;obtain rfl:=osi ht5;exact⟨_,Gst.only [0,2,3,4] Z,Z⟩
  refine zi Z (c6) ?_;refine aS ?_;refine aA Z Z ?_;obtain⟨x7,hx7,ht5⟩:=bS ht5;refine z6 (wh hx7 Z Z Z Z) Z ?_;iterate 2 refine aA rfl rfl ?_
  refine aN Z ?_;refine T.region ?_;refine aA Z Z ?_;obtain⟨x8,hx8,ht5⟩:=bS ht5;refine z6 (rk hx8 Z Z Z (BdM.some Z) BdM.none) Z ?_;refine aA Z Z ?_;refine TL.nil ?_;obtain rfl:=osi ht5;exact⟨_,Gst.only [0,2,3,4] Z,Z⟩
 rintro _ rfl;show T X _ _ _;refine T.seq ?_;refine aS ?_;refine aA Z Z ?_;refine z6 (zk (OpR.pure Z) (boolE (strEq _ _))) Z ?_;refine aN Z ?_;rcases z9 h0 with ⟨c9,h0⟩|⟨c9,h0⟩
 ·refine zi Z (beq_iff_eq.2 c9) ?_;refine aS ?_;iterate 2 refine aA rfl rfl ?_
  refine aN Z ?_;refine T.ret ?_;obtain rfl:=osi h0;exact rO [] [2,3] Z undef (cT Z (cT Z ResL.nil)) Z Z Z Z
 refine zh Z (beq_eq_false_iff_ne.2 c9) ?_;refine aK Z ?_;refine T.seq ?_;refine aS ?_;refine aA Z Z ?_;refine aN Z ?_;obtain⟨t10,ht10,h0⟩:=bS h0;refine zz (fun S'=>∃ u11,t10=Ex.brk u11∧S'=⟨[(4,(dT t5.2)),(3,(dT false)),(2,(dN 0)),(0,.val (.string (bs t5.1)))],[],70⟩) (fun _ h=>h) ?_ ?_
 ·refine T.block ?_;obtain⟨n13,n18⟩:=zw ht10;refine T.loop (fun n S'=>∃ S'',Gst S' S''∧∃ s12:Int,S''=⟨[(5,(dN s12)),(4,(dT t5.2)),(3,(dT false)),(2,(dN 0)),(0,.val (.string (bs t5.1)))],[],70⟩∧wc (yy.l1 t5) n s12=some t10) n13 ?_ ?_
  ·exact⟨_,Gst.only [0,2,3,4,5] Z,0,Z,n18⟩
  rintro n13 _ ⟨_,g,s12,rfl,i17⟩;refine T.ghost g ?_;obtain⟨m14,q15,rfl,q16,i17⟩:=zx i17;unfold yy.l1 at q16;refine T.seq ?_;refine aS ?_;iterate 2 refine aA rfl rfl ?_
  refine z6 (zk (OpR.pure Z) (xh (lenS _))) Z ?_;refine aA Z Z ?_;refine aN Z ?_;rcases z9 q16 with ⟨c20,q16⟩|⟨c20,q16⟩;rotate_left
  ·refine zh Z (eF c20) ?_;refine T.exit ?_;obtain rfl:=osi q16;obtain rfl:_=_:=i17;exact⟨_,Gst.only [0,2,3,4] Z,_,Z,Z⟩
  refine zi Z (eT c20) ?_;refine aK Z ?_;refine T.seq ?_;refine T.block ?_;refine aS ?_;iterate 2 refine aA rfl rfl ?_
  obtain⟨x21,hx21,q16⟩:=bS q16;refine z6 (wh hx21 Z Z Z Z) Z ?_;obtain⟨x22,hx22,q16⟩:=bS q16;refine z6 (zf fn217 (ref02_Digit_c hx22) Z) Z ?_;refine aA Z Z ?_;refine aN Z ?_;rcases z9 q16 with ⟨c23,q16⟩|⟨c23,q16⟩
  ·refine zh Z (zS (c23)) ?_;refine aK Z ?_;refine T.region ?_;iterate 3 refine aA rfl rfl ?_
   refine TL.nil ?_;obtain rfl:=osi q16;exact⟨m14,Nat.lt_succ_self _,_,Gst.only [0,2,3,4,5] Z,w64 (s12+1),Z,i17⟩
  refine zi Z (yd (eN c23)) ?_;refine aS ?_;iterate 2 refine aA rfl rfl ?_
  refine aN Z ?_;refine T.ret ?_;obtain rfl:=osi q16;obtain rfl:_=_:=i17;obtain rfl:=osi h0;exact rO [] [2,3] Z undef (cT Z (cT Z ResL.nil)) Z Z Z Z
 rintro _ ⟨u11,rfl,rfl⟩;show T X _ _ _;refine aS ?_;refine aA Z Z ?_;obtain⟨x24,hx24,h0⟩:=bS h0;refine z6 (zf fn218 (ref02_bare_c hx24) Z) Z ?_;refine aA Z Z ?_;refine aN Z ?_;refine aS ?_;refine aA Z Z ?_;refine aN Z ?_;refine T.seq ?_;refine aS ?_;refine aA Z Z ?_;refine aN Z ?_;obtain⟨t25,ht25,h0⟩:=bS h0;refine zz (fun S'=>S'=⟨[(6,.val (.string (bs t25))),(4,(dT t5.2)),(3,(dT false)),(2,(dN 0)),(0,.val (.string (bs x24)))],[],70⟩) (fun _ h=>h) ?_ ?_
 ·rcases z9 ht25 with ⟨c26,ht25⟩|⟨c26,ht25⟩;rotate_left
  ·refine zh Z (eN c26) ?_;refine T.skip ?_;obtain rfl:=osi ht25;exact⟨_,Gst.only [0,2,3,4,6] Z,Z⟩
  refine zi Z (c26) ?_;refine T.region ?_;refine aA Z Z ?_;refine TL.nil ?_;obtain rfl:=osi ht25;exact⟨_,Gst.only [0,2,3,4,6] Z,Z⟩
 rintro _ rfl;show T X _ _ _;refine T.seq ?_;refine aS ?_;iterate 2 refine aA rfl rfl ?_
 obtain⟨x27,hx27,h0⟩:=bS h0;refine z6 (zf fn219 (ref02_less_c hx27) Z) Z ?_;refine aN Z ?_;rcases z9 h0 with ⟨c28,h0⟩|⟨c28,h0⟩
 ·refine zi Z (c28) ?_;refine aS ?_;iterate 2 refine aA rfl rfl ?_
  refine aN Z ?_;refine T.ret ?_;obtain rfl:=osi h0;exact rO [] [2,3] Z undef (cT Z (cT Z ResL.nil)) Z Z Z Z
 refine zh Z (eN c28) ?_;refine aK Z ?_;refine aS ?_;refine aA Z Z ?_;refine aN Z ?_;refine T.seq ?_;refine aS ?_;refine aA Z Z ?_;refine aN Z ?_;obtain⟨t29,ht29,h0⟩:=bS h0;refine zz (fun S'=>S'=⟨[(7,(dN t29)),(3,(dT false)),(2,(dN 0))],[],70⟩) (fun _ h=>h) ?_ ?_;rotate_left
 ·rintro _ rfl;show T X _ _ _;refine aS ?_;iterate 3 refine aA rfl rfl ?_
  refine aN Z ?_;refine T.ret ?_;obtain rfl:=osi h0;exact rO [] [2,3] Z undef (cT Z (cT Z ResL.nil)) Z Z Z Z
 refine T.block ?_;obtain⟨n31,n36⟩:=zw ht29;refine T.loop (fun n S'=>∃ S'',Gst S' S''∧∃ s30:Int × Int,S''=⟨[(8,(dN s30.2)),(7,(dN s30.1)),(4,(dT t5.2)),(3,(dT false)),(2,(dN 0)),(0,.val (.string (bs x24)))],[],70⟩∧wc (yy.l2 t5 x24) n s30=some t29) n31 ?_ ?_
 ·exact⟨_,Gst.only [0,2,3,4,7,8] Z,(0,0),Z,n36⟩
 rintro n31 _ ⟨_,g,s30,rfl,i35⟩;refine T.ghost g ?_;obtain⟨m32,q33,rfl,q34,i35⟩:=zx i35;unfold yy.l2 at q34;refine T.seq ?_;refine aS ?_;iterate 2 refine aA rfl rfl ?_
 refine z6 (zk (OpR.pure Z) (xh (lenS _))) Z ?_;refine aA Z Z ?_;refine aN Z ?_;rcases z9 q34 with ⟨c38,q34⟩|⟨c38,q34⟩;rotate_left
 ·refine zh Z (eF c38) ?_;refine T.exit ?_;obtain rfl:=osi q34;obtain rfl:_=_:=i35;exact⟨_,Gst.only [2,3,7] Z,Z⟩
 refine zi Z (eT c38) ?_;refine aK Z ?_;refine T.seq ?_;refine T.block ?_;refine aS ?_;refine aA Z Z ?_;refine aN Z ?_;obtain⟨t39,ht39,q34⟩:=bS q34;refine zz (fun S'=>S'=⟨[(8,(dN s30.2)),(7,(dN t39)),(4,(dT t5.2)),(3,(dT false)),(2,(dN 0)),(0,.val (.string (bs x24)))],[],70⟩) (fun _ h=>h) ?_ ?_;rotate_left
 ·rintro _ rfl;show T X _ _ _;refine T.region ?_;iterate 3 refine aA rfl rfl ?_
  refine TL.nil ?_;obtain rfl:=osi q34;exact⟨m32,Nat.lt_succ_self _,_,Gst.only [0,2,3,4,7,8] Z,(t39,w64 (s30.2+1)),Z,i35⟩
 rcases z9 ht39 with ⟨c40,ht39⟩|⟨c40,ht39⟩
 ·refine zi Z (c40) ?_;refine T.region ?_;iterate 4 refine aA rfl rfl ?_
  obtain⟨x41,hx41,ht39⟩:=bS ht39;refine z6 (wh hx41 Z Z Z Z) Z ?_;refine z6 (zk (OpR.pure Z) (xh (w64_u8 _))) Z ?_;iterate 3 refine aA rfl rfl ?_
  refine TL.nil ?_;obtain rfl:=osi ht39;exact⟨_,Gst.only [0,2,3,4,7,8] Z,Z⟩
 refine zh Z (eN c40) ?_;refine T.region ?_;iterate 4 refine aA rfl rfl ?_
 obtain⟨x42,hx42,ht39⟩:=bS ht39;refine z6 (wh hx42 Z Z Z Z) Z ?_;refine z6 (zk (OpR.pure Z) (xh (w64_u8 _))) Z ?_;iterate 3 refine aA rfl rfl ?_
 refine TL.nil ?_;obtain rfl:=osi ht39;exact⟨_,Gst.only [0,2,3,4,7,8] Z,Z⟩
noncomputable def uX (a0:List UInt8) (a1:List UInt8):Option Int:=
 bnd (yy a0) fun x1=>
 bnd (yy a1) fun x2=>
 bnd (if x1.2=true then
 some x2.2
else
 some false:Option Bool) fun t3=>
 bnd (if t3=true then
 some (decide (x1.1<x2.1),decide (x2.1<x1.1))
else
 some ((Op.bytesLess a0 a1),(Op.bytesLess a1 a0)):Option (Bool × Bool)) fun t5=>
 bnd (if (x1.2==x2.2)=true then
 some (t5.1,t5.2)
else
 some (x1.2,x2.2):Option (Bool × Bool)) fun t7=>
 if t7.1=true then
 some (-1)
else
 if t7.2=true then
 some 1
else
 some 0
theorem ref02_Compare_c {a0:List UInt8} {a1:List UInt8} {res:Int} (h0:uX a0 a1=some res):zn X 109 [.val (.string (bs a0)),.val (.string (bs a1))] [] (fun x=>(dN res)) (fun x=>[]):=by
 unfold uX at h0;refine zg (X:=X) Z Tryz.func109 Z Z Tryz.ntmps109 Z Z ?_;refine aS ?_;refine aA Z Z ?_;refine aN Z ?_;refine aS ?_;refine aA Z Z ?_;obtain⟨x1,hx1,h0⟩:=bS h0;refine z6 (zf fn174 (pF hx1) Z) Z ?_;iterate 5 refine aA rfl rfl ?_
 refine aN Z ?_;refine aS ?_;refine aA Z Z ?_;obtain⟨x2,hx2,h0⟩:=bS h0;refine z6 (zf fn174 (pF hx2) Z) Z ?_;iterate 5 refine aA rfl rfl ?_
 refine aN Z ?_;refine aS ?_;iterate 2 refine aA rfl rfl ?_
 refine z6 (zk (OpR.pure Z) (boolE (strLt _ _))) Z ?_;iterate 2 refine aA rfl rfl ?_
 refine z6 (zk (OpR.pure Z) (boolE (strLt _ _))) Z ?_;iterate 2 refine aA rfl rfl ?_
 refine aN Z ?_;refine T.seq ?_;refine T.seq ?_;obtain⟨t3,ht3,h0⟩:=bS h0;refine zz (fun S'=>S'=⟨[(30,(dT t3)),(10,(dT (Op.bytesLess a1 a0))),(9,(dT (Op.bytesLess a0 a1))),(8,(dT x2.2)),(7,(dN x2.1)),(6,(dT x1.2)),(5,(dN x1.1)),(4,(dN 0))],[],44⟩) (fun _ h=>h) ?_ ?_
 ·refine T.region ?_;iterate 2 refine aA rfl rfl ?_
  rcases z9 ht3 with ⟨c4,ht3⟩|⟨c4,ht3⟩
  ·refine TL.on Z Z Z Z (c4) ?_;refine aA Z Z ?_;refine z6 (zt Z (c4) Z) Z ?_;refine TL.nil ?_;obtain rfl:=osi ht3;exact⟨_,Gst.only [4,5,6,7,8,9,10,30] Z,Z⟩
  refine TL.off Z Z Z Z (eN c4) Z Z ?_;refine z6 (zu Z (eN c4) Z) Z ?_;refine TL.nil ?_;obtain rfl:=osi ht3;exact⟨_,Gst.only [4,5,6,7,8,9,10,30] Z,Z⟩
 rintro _ rfl;show T X _ _ _;obtain⟨t5,ht5,h0⟩:=bS h0;refine zz (fun S'=>S'=⟨[(10,(dT t5.2)),(9,(dT t5.1)),(8,(dT x2.2)),(6,(dT x1.2)),(4,(dN 0))],[],44⟩) (fun _ h=>h) ?_ ?_
 ·rcases z9 ht5 with ⟨c6,ht5⟩|⟨c6,ht5⟩;rotate_left
  ·refine zh Z (eN c6) ?_;refine T.skip ?_;obtain rfl:=osi ht5;exact⟨_,Gst.only [4,6,8,9,10] Z,Z⟩
  refine zi Z (c6) ?_;refine T.region ?_;iterate 8 refine aA rfl rfl ?_
  refine TL.nil ?_;obtain rfl:=osi ht5;exact⟨_,Gst.only [4,6,8,9,10] Z,Z⟩
 rintro _ rfl;show T X _ _ _;refine T.seq ?_;refine aS ?_;iterate 2 refine aA rfl rfl ?_
 refine z6 (OpR.neBool Z Z Z Z) Z ?_;refine aN Z ?_;obtain⟨t7,ht7,h0⟩:=bS h0;refine zz (fun S'=>S'=⟨[(10,(dT t7.2)),(9,(dT t7.1)),(4,(dN 0))],[],44⟩) (fun _ h=>h) ?_ ?_
 ·rcases z9 ht7 with ⟨c8,ht7⟩|⟨c8,ht7⟩
  ·refine zh Z (zS (c8)) ?_;refine T.skip ?_;obtain rfl:=osi ht7;exact⟨_,Gst.only [4,9,10] Z,Z⟩
  refine zi Z (yd (eN c8)) ?_;refine T.region ?_;iterate 4 refine aA rfl rfl ?_
  refine TL.nil ?_;obtain rfl:=osi ht7;exact⟨_,Gst.only [4,9,10] Z,Z⟩
 rintro _ rfl;show T X _ _ _;refine T.seq ?_;refine aS ?_;refine aA Z Z ?_;refine aN Z ?_;rcases z9 h0 with ⟨c9,h0⟩|⟨c9,h0⟩
 ·refine zi Z (c9) ?_;refine aS ?_;refine aA Z Z ?_;refine aN Z ?_;refine T.ret ?_;obtain rfl:=osi h0;exact rO [] [4] Z undef (cT Z ResL.nil) Z Z Z Z
 refine zh Z (eN c9) ?_;refine aK Z ?_;refine T.seq ?_;refine aS ?_;refine aA Z Z ?_;refine aN Z ?_;rcases z9 h0 with ⟨c10,h0⟩|⟨c10,h0⟩
 ·refine zi Z (c10) ?_;refine aS ?_;refine aA Z Z ?_;refine aN Z ?_;refine T.ret ?_;obtain rfl:=osi h0;exact rO [] [4] Z undef (cT Z ResL.nil) Z Z Z Z
 refine zh Z (eN c10) ?_;refine aK Z ?_;refine aS ?_;refine aA Z Z ?_;refine aN Z ?_;refine T.ret ?_;obtain rfl:=osi h0;exact rO [] [4] Z undef (cT Z ResL.nil) Z Z Z Z
noncomputable def xf.l1 (a0:ref08_Row) (a1:ref08_Row) (a2:List ref16_By) (s3:Int):Option (Lp Int (Ex Unit Int)):=
 if s3<(a2.length:Int) then
 bnd (idx a2 s3) fun x12=>
 bnd (se a0 x12.fCol) fun x15=>
 bnd (se a1 x12.fCol) fun x16=>
 bnd (uX x15 x16) fun x17=>
 bnd (if x12.fDown=true then
 some (w64 (0-x17))
else
 some x17:Option Int) fun t18=>
 if t18=0 then
 some (Lp.next (w64 (s3+1)))
else
 some (Lp.done (Ex.ret t18))
else
 some (Lp.done (Ex.brk ()))
noncomputable def xf (a0:ref08_Row) (a1:ref08_Row) (a2:List ref16_By):Option Int:=
 bnd (loop (xf.l1 a0 a1 a2) 0:Option (Ex Unit Int)) fun t1=>match t1 with
| .brk u2=>
 some 0
| .ret u2=>some u2
theorem qp {a0:ref08_Row} {a1:ref08_Row} {a2:List ref16_By} {res:Int} (h0:xf a0 a1 a2=some res):zn X 66 [.agg [.sl 3 (List.map zB a0.fCells),dN a0.fEnd,dT a0.fHidden],.agg [.sl 3 (List.map zB a1.fCells),dN a1.fEnd,dT a1.fHidden],.sl 2 (List.map zP a2)] [] (fun x=>(dN res)) (fun x=>[]):=by
 unfold xf at h0;refine zg (X:=X) Z Tryz.func66 Z Z Tryz.ntmps66 Z Z ?_;refine aS ?_;refine z6 (zD Z Z) Z ?_;refine z6 (zD Z Z) Z ?_;refine aA Z Z ?_;refine aN Z ?_;refine T.seq ?_;refine aS ?_;refine aA Z Z ?_;refine z6 (zk (OpR.pure Z) (xh (xX _ _))) Z ?_;refine aA Z Z ?_;refine aN Z ?_;obtain⟨t1,ht1,h0⟩:=bS h0;refine zz (fun S'=>∃ u2,t1=Ex.brk u2∧S'=⟨[(6,(dN 0))],[],33⟩) (fun _ h=>h) ?_ ?_;rotate_left
 ·rintro _ ⟨u2,rfl,rfl⟩;show T X _ _ _;refine aS ?_;refine aA Z Z ?_;refine aN Z ?_;refine T.ret ?_;obtain rfl:=osi h0;exact rO [] [6] Z undef (cT Z ResL.nil) Z Z Z Z
 refine T.block ?_;obtain⟨n4,n9⟩:=zw ht1;refine T.loop (fun n S'=>∃ S'',Gst S' S''∧∃ s3:Int,S''=⟨[(12,(dN s3)),(11,(dN (a2.length:Int))),(10,.sl 2 (List.map zP a2)),(6,(dN 0)),(4,.nod [.sl 3 (List.map zB a1.fCells),dN a1.fEnd,dT a1.fHidden]),(3,.nod [.sl 3 (List.map zB a0.fCells),dN a0.fEnd,dT a0.fHidden])],[],33⟩∧wc (xf.l1 a0 a1 a2) n s3=some t1) n4 ?_ ?_
 ·exact⟨_,Gst.only [3,4,6,10,11,12] Z,0,Z,n9⟩
 rintro n4 _ ⟨_,g,s3,rfl,i8⟩;refine T.ghost g ?_;obtain⟨m5,q6,rfl,q7,i8⟩:=zx i8;unfold xf.l1 at q7;refine aS ?_;refine aA Z Z ?_;refine aN Z ?_;refine T.seq ?_;rcases z9 q7 with ⟨c11,q7⟩|⟨c11,q7⟩;rotate_left
 ·refine zh Z (eF c11) ?_;refine T.exit ?_;obtain rfl:=osi q7;obtain rfl:_=_:=i8;exact⟨_,Gst.only [6] Z,_,Z,Z⟩
 refine zi Z (eT c11) ?_;refine aK Z ?_;refine T.seq ?_;refine T.block ?_;refine aS ?_;obtain⟨x12,hx12,q7⟩:=bS q7;refine z6 (zp zP hx12 Z Z Z Z Z) Z ?_;refine aA Z Z ?_;refine TL.op (OpR.alloc Z Z (fun _=>Z)) Z (fun p13=>?_);refine zy (OpR.store 0 Z Z Z Z Z Z Z Z) ?_;refine aN Z ?_;refine T.seq ?_;obtain⟨x15,hx15,q7⟩:=bS q7;obtain⟨x16,hx16,q7⟩:=bS q7;obtain⟨x17,hx17,q7⟩:=bS q7;refine yo zW [.agg [.sl 3 (List.map zB a0.fCells),dN a0.fEnd,dT a0.fHidden],dP (blk p13),dN x12.fCol,.val (.string (bs x15)),.agg [.sl 3 (List.map zB a1.fCells),dN a1.fEnd,dT a1.fHidden],dP (blk p13),dN x12.fCol,.val (.string (bs x16)),dN x17,dN x17] [3,4,6,8,9,10,11,12] (by decide +kernel) Z ?_ Z ?_
 ·iterate 2 refine aB rfl rfl rfl ?_
  refine zq.yes (Want.plain Z) Z (z7 0 Z Z Z Z) ?_;refine zq.yes (Want.plain Z) Z (zf fn110 (ref16_text_c hx15) Z) ?_;iterate 2 refine aB rfl rfl rfl ?_
  refine zq.yes (Want.plain Z) Z (z7 0 Z Z Z Z) ?_;refine zq.yes (Want.plain Z) Z (zf fn110 (ref16_text_c hx16) Z) ?_;refine zq.yes (Want.plain Z) Z (zf fn109 (ref02_Compare_c hx17) Z) ?_;refine aB Z Z Z ?_;exact zq.nil
 show T X _ _ _;refine T.seq ?_;refine aS ?_;refine aA Z Z ?_;refine z6 (z7 0 Z Z Z Z) Z ?_;refine aN Z ?_;obtain⟨t18,ht18,q7⟩:=bS q7;refine zz (fun S'=>S'=⟨[(12,(dN s3)),(11,(dN (a2.length:Int))),(10,.sl 2 (List.map zP a2)),(9,(dN t18)),(6,(dN 0)),(4,.nod [.sl 3 (List.map zB a1.fCells),dN a1.fEnd,dT a1.fHidden]),(3,.nod [.sl 3 (List.map zB a0.fCells),dN a0.fEnd,dT a0.fHidden])],[],33⟩) (fun _ h=>h) ?_ ?_
 ·rcases z9 ht18 with ⟨c19,ht18⟩|⟨c19,ht18⟩;rotate_left
  ·refine zh Z (eN c19) ?_;refine T.skip ?_;obtain rfl:=osi ht18;exact⟨_,gP [3,4,6,9,10,11,12] [] Z Z Z,Z⟩
  refine zi Z (c19) ?_;refine T.region ?_;iterate 3 refine aA rfl rfl ?_
  refine TL.nil ?_;obtain rfl:=osi ht18;exact⟨_,gP [3,4,6,9,10,11,12] [] Z Z Z,Z⟩
 rintro _ rfl;show T X _ _ _;refine aS ?_;iterate 2 refine aA rfl rfl ?_
 refine aN Z ?_;rcases z9 q7 with ⟨c20,q7⟩|⟨c20,q7⟩
 ·refine zh Z (zS (beq_iff_eq.2 c20)) ?_;refine aK Z ?_;refine T.region ?_;iterate 2 refine aA rfl rfl ?_
  refine TL.nil ?_;obtain rfl:=osi q7;exact⟨m5,Nat.lt_succ_self _,_,Gst.only [3,4,6,10,11,12] Z,w64 (s3+1),Z,i8⟩
 refine zi Z (yd (beq_eq_false_iff_ne.2 c20)) ?_;refine aS ?_;iterate 2 refine aA rfl rfl ?_
 refine aN Z ?_;refine T.ret ?_;obtain rfl:=osi q7;obtain rfl:_=_:=i8;obtain rfl:=osi h0;exact rO [] [6] Z undef (cT Z ResL.nil) Z Z Z Z
noncomputable def yV.l1 (a0:ref11_Grid) (a1:List ref16_By) (s7:Int × (List Int)) (x16:Int) (s20:Bool × Int × (List Int)):Option (Lp (Bool × Int × (List Int)) (Bool × (List Int))):=
 if s20.2.1<(s7.2.length:Int) then
 bnd (idx s7.2 s20.2.1) fun x29=>
 bnd (if s20.1=true then
 some false
else
 bnd (idx a0.fRows x16) fun x33=>
 bnd (idx a0.fRows x29) fun x34=>
 bnd (xf x33 x34 a1) fun x35=>
 some (decide (x35<0)):Option Bool) fun t30=>
 bnd (if t30=true then
 bnd (app 8 s20.2.2 [x16]) fun x39=>
 some (true,x39)
else
 some (s20.1,s20.2.2):Option (Bool × (List Int))) fun t36=>
 bnd (app 8 t36.2 [x29]) fun x41=>
 some (Lp.next (t36.1,w64 (s20.2.1+1),x41))
else
 some (Lp.done (s20.1,s20.2.2))
noncomputable def yV.l2 (a0:ref11_Grid) (a1:List ref16_By) (x3:(List Int)) (s7:Int × (List Int)):Option (Lp (Int × (List Int)) (List Int)):=
 if s7.1<(x3.length:Int) then
 bnd (idx x3 s7.1) fun x16=>
 bnd (loop (yV.l1 a0 a1 s7 x16) (false,0,[]):Option (Bool × (List Int))) fun t17=>
 bnd (if t17.1=true then
 some t17.2
else
 bnd (app 8 t17.2 [x16]) fun x46=>
 some x46:Option (List Int)) fun t43=>
 some (Lp.next (w64 (s7.1+1),t43))
else
 some (Lp.done s7.2)
noncomputable def yV (a0:ref11_Grid) (a1:List ref16_By):Option (List Int):=
 bnd (xB a1) fun x1=>
 if x1=true then
 bnd (yW a0) fun x3=>
 bnd (loop (yV.l2 a0 a1 x3) (0,[]):Option (List Int)) fun t4=>
 some t4
else
 some []
theorem uJ {a0:ref11_Grid} {a1:List ref16_By} {res:(List Int)} (h0:yV a0 a1=some res):zn X 60 [.agg [.sl 3 (List.map zb a0.fRows),dT a0.fTail,dN a0.fEnd],.sl 2 (List.map zP a1)] [] (fun x=>.sl 1 (List.map (eI .i64) res)) (fun x=>[]):=by
 unfold yV at h0;refine zg (X:=X) Z Tryz.func60 Z Z Tryz.ntmps60 Z Z ?_;refine aS ?_;refine z6 (zD Z Z) Z ?_;refine aA Z Z ?_;refine aN Z ?_;refine aS ?_;refine aA Z Z ?_;refine aN Z ?_;refine T.seq ?_;refine aS ?_;refine aA Z Z ?_;obtain⟨x1,hx1,h0⟩:=bS h0;refine z6 (zf fn57 (wE hx1) Z) Z ?_;refine aA Z Z ?_;refine aN Z ?_;rcases z9 h0 with ⟨c2,h0⟩|⟨c2,h0⟩;rotate_left
 ·refine zi Z (yd (eN c2)) ?_;refine aS ?_;iterate 2 refine aA rfl rfl ?_
  refine aN Z ?_;refine T.ret ?_;obtain rfl:=osi h0;exact zC (ks:=[]) (Gst.trans (Gst.only [4] Z) (Gst.denil (ReS.cons (Re.base .nil) ReS.nil) ReO.nil)) undef (cT Z ResL.nil) Z Z Z Z
 refine zh Z (zS (c2)) ?_;refine aK Z ?_;refine T.seq ?_;refine aS ?_;refine aA Z Z ?_;obtain⟨x3,hx3,h0⟩:=bS h0;refine z6 (zf fn63 (sF hx3) Z) Z ?_;refine z6 (zk (OpR.pure Z) (xh (xX _ _))) Z ?_;refine aA Z Z ?_;refine aN Z ?_;obtain⟨t4,ht4,h0⟩:=bS h0;refine zz (fun S'=>∃ y5:Value,S'=⟨[(5,.val y5),(4,.val (.slice none 0 0))],[.row y5 (List.map (eI .i64) t4) 1 3],64⟩) (fun _ h=>h) ?_ ?_;rotate_left
 ·rintro _ ⟨y5,rfl⟩;show T X _ _ _;refine aS ?_;iterate 2 refine aA rfl rfl ?_
  refine aN Z ?_;refine T.ret ?_;obtain rfl:=osi h0;exact zC (ks:=[]) (Gst.trans (Gst.only [4] Z) (Gst.trans (zA 0 Z Z (ReS.cons (Re.base .all) ReS.nil) (ReO.same ReO.nil)) (Gst.pick [] Z Z))) undef (cT Z ResL.nil) Z Z Z Z
 refine T.block ?_;obtain⟨n8,n13⟩:=zw ht4;refine T.loop (fun n S'=>∃ S'',Gst S' S''∧∃ y6:Value,∃ s7:Int × (List Int),S''=⟨[(19,(dN s7.1)),(18,(dN (x3.length:Int))),(17,.sl 1 (List.map (eI .i64) x3)),(5,.val y6),(4,.val (.slice none 0 0)),(2,.nod [.sl 3 (List.map zb a0.fRows),dT a0.fTail,dN a0.fEnd]),(1,.sl 2 (List.map zP a1))],[.row y6 (List.map (eI .i64) s7.2) 1 3],64⟩∧wc (yV.l2 a0 a1 x3) n s7=some t4) n8 ?_ ?_
 ·exact⟨_,Gst.trans (Gst.only [1,2,4,5,17,18,19] Z) (ya (ow:=[]) 1 3 Z),(.slice none 0 0),(0,[]),Z,n13⟩
 rintro n8 _ ⟨_,g,y6,s7,rfl,i12⟩;refine T.ghost g ?_;obtain⟨m9,q10,rfl,q11,i12⟩:=zx i12;unfold yV.l2 at q11;refine aS ?_;refine aA Z Z ?_;refine aN Z ?_;refine T.seq ?_;rcases z9 q11 with ⟨c15,q11⟩|⟨c15,q11⟩;rotate_left
 ·refine zh Z (eF c15) ?_;refine T.exit ?_;obtain rfl:=osi q11;obtain rfl:_=_:=i12;exact⟨_,Gst.only [4,5] Z,y6,Z⟩
 refine zi Z (eT c15) ?_;refine aK Z ?_;refine T.seq ?_;refine T.block ?_;refine aS ?_;obtain⟨x16,hx16,q11⟩:=bS q11;refine z6 (zp (eI .i64) hx16 Z Z Z Z Z) Z ?_;iterate 2 refine aA rfl rfl ?_
 refine aN Z ?_;refine aS ?_;refine aA Z Z ?_;refine aN Z ?_;refine aS ?_;refine aA Z Z ?_;refine aN Z ?_;refine T.seq ?_;refine aS ?_;refine aA Z Z ?_;refine z6 (yz (eI .i64) 0 Z Z Z Z) Z ?_;refine aA Z Z ?_;refine aN Z ?_;obtain⟨t17,ht17,q11⟩:=bS q11;refine zz (fun S'=>∃ y18:Value,S'=⟨[(19,(dN s7.1)),(18,(dN (x3.length:Int))),(17,.sl 1 (List.map (eI .i64) x3)),(9,(dT t17.1)),(8,.val y18),(7,(dN x16)),(5,.val y6),(4,.val (.slice none 0 0)),(2,.nod [.sl 3 (List.map zb a0.fRows),dT a0.fTail,dN a0.fEnd]),(1,.sl 2 (List.map zP a1))],[.row y6 (List.map (eI .i64) s7.2) 1 3,.row y18 (List.map (eI .i64) t17.2) 1 3],64⟩) (fun _ h=>h) ?_ ?_;rotate_left
 ·rintro _ ⟨y18,rfl⟩;show T X _ _ _;refine T.seq ?_;refine aS ?_;iterate 2 refine aA rfl rfl ?_
  refine aN Z ?_;obtain⟨t43,ht43,q11⟩:=bS q11;refine zz (fun S'=>∃ y44:Value,S'=⟨[(19,(dN s7.1)),(18,(dN (x3.length:Int))),(17,.sl 1 (List.map (eI .i64) x3)),(8,.val y44),(5,.val y6),(4,.val (.slice none 0 0)),(2,.nod [.sl 3 (List.map zb a0.fRows),dT a0.fTail,dN a0.fEnd]),(1,.sl 2 (List.map zP a1))],[.row y6 (List.map (eI .i64) s7.2) 1 3,.row y44 (List.map (eI .i64) t43) 1 3],64⟩) (fun _ h=>h) ?_ ?_;rotate_left
  ·rintro _ ⟨y44,rfl⟩;show T X _ _ _;refine T.region ?_;iterate 2 refine aA rfl rfl ?_
   refine aN Z ?_;refine T.region ?_;iterate 2 refine aA rfl rfl ?_
   refine TL.nil ?_;obtain rfl:=osi q11;exact⟨m9,Nat.lt_succ_self _,_,gP [1,2,4,5,17,18,19] [1] Z Z Z,y44,(w64 (s7.1+1),t43),Z,i12⟩
  rcases z9 ht43 with ⟨c45,ht43⟩|⟨c45,ht43⟩
  ·refine zh Z (zS (c45)) ?_;refine T.skip ?_;obtain rfl:=osi ht43;exact⟨_,Gst.only [1,2,4,5,8,17,18,19] Z,y18,Z⟩
  refine zi Z (yd (eN c45)) ?_;refine T.region ?_;iterate 2 refine aA rfl rfl ?_
  refine z6 (yC Z Z Z Z Z Z Z) Z ?_;obtain⟨x46,hx46,ht43⟩:=bS ht43;refine TL.op (zH (m:=[x16]) (eI .i64) 1 hx46 Z Z Z Z Z Z Z Z Z (fun _=>Z)) Z (fun v47=>?_);refine aA Z Z ?_;refine TL.nil ?_;obtain rfl:=osi ht43;exact⟨_,Gst.only [1,2,4,5,8,17,18,19] Z,v47,Z⟩
 refine T.block ?_;obtain⟨n21,n26⟩:=zw ht17;refine T.loop (fun n S'=>∃ S'',Gst S' S''∧∃ y19:Value,∃ s20:Bool × Int × (List Int),S''=⟨[(25,(dN s20.2.1)),(24,(dN (s7.2.length:Int))),(23,.val y6),(19,(dN s7.1)),(18,(dN (x3.length:Int))),(17,.sl 1 (List.map (eI .i64) x3)),(9,(dT s20.1)),(8,.val y19),(7,(dN x16)),(5,.val y6),(4,.val (.slice none 0 0)),(2,.nod [.sl 3 (List.map zb a0.fRows),dT a0.fTail,dN a0.fEnd]),(1,.sl 2 (List.map zP a1))],[.row y6 (List.map (eI .i64) s7.2) 1 3,.row y19 (List.map (eI .i64) s20.2.2) 1 3],64⟩∧wc (yV.l1 a0 a1 s7 x16) n s20=some t17) n21 ?_ ?_
 ·exact⟨_,Gst.trans (Gst.only [1,2,4,5,7,8,9,17,18,19,23,24,25] Z) (ya (ow:=[.row y6 (List.map (eI .i64) s7.2) 1 3]) 1 3 Z),(.slice none 0 0),(false,0,[]),Z,n26⟩
 rintro n21 _ ⟨_,g,y19,s20,rfl,i25⟩;refine T.ghost g ?_;obtain⟨m22,q23,rfl,q24,i25⟩:=zx i25;unfold yV.l1 at q24;refine aS ?_;refine aA Z Z ?_;refine aN Z ?_;refine T.seq ?_;rcases z9 q24 with ⟨c28,q24⟩|⟨c28,q24⟩;rotate_left
 ·refine zh Z (eF c28) ?_;refine T.exit ?_;obtain rfl:=osi q24;obtain rfl:_=_:=i25;exact⟨_,Gst.only [1,2,4,5,7,8,9,17,18,19] Z,y19,Z⟩
 refine zi Z (eT c28) ?_;refine aK Z ?_;refine T.seq ?_;refine T.block ?_;refine aS ?_;obtain⟨x29,hx29,q24⟩:=bS q24;refine z6 (zK (eI .i64) 0 hx29 Z Z Z Z Z Z Z) Z ?_;refine z6 (zJ (j:=s20.2.1) (eI .i64) 0 hx29 Z Z Z Z) Z ?_;refine aA Z Z ?_;refine aN Z ?_;refine T.seq ?_;refine T.seq ?_;obtain⟨t30,ht30,q24⟩:=bS q24;refine zz (fun S'=>S'=⟨[(45,(dT t30)),(25,(dN s20.2.1)),(24,(dN (s7.2.length:Int))),(23,.val y6),(19,(dN s7.1)),(18,(dN (x3.length:Int))),(17,.sl 1 (List.map (eI .i64) x3)),(11,(dN x29)),(9,(dT s20.1)),(8,.val y19),(7,(dN x16)),(5,.val y6),(4,.val (.slice none 0 0)),(2,.nod [.sl 3 (List.map zb a0.fRows),dT a0.fTail,dN a0.fEnd]),(1,.sl 2 (List.map zP a1))],[.row y6 (List.map (eI .i64) s7.2) 1 3,.row y19 (List.map (eI .i64) s20.2.2) 1 3],64⟩) (fun _ h=>h) ?_ ?_;rotate_left
 ·rintro _ rfl;show T X _ _ _;obtain⟨t36,ht36,q24⟩:=bS q24;refine zz (fun S'=>∃ y37:Value,S'=⟨[(25,(dN s20.2.1)),(24,(dN (s7.2.length:Int))),(23,.val y6),(19,(dN s7.1)),(18,(dN (x3.length:Int))),(17,.sl 1 (List.map (eI .i64) x3)),(11,(dN x29)),(9,(dT t36.1)),(8,.val y37),(7,(dN x16)),(5,.val y6),(4,.val (.slice none 0 0)),(2,.nod [.sl 3 (List.map zb a0.fRows),dT a0.fTail,dN a0.fEnd]),(1,.sl 2 (List.map zP a1))],[.row y6 (List.map (eI .i64) s7.2) 1 3,.row y37 (List.map (eI .i64) t36.2) 1 3],64⟩) (fun _ h=>h) ?_ ?_;rotate_left
  ·rintro _ ⟨y37,rfl⟩;show T X _ _ _;refine T.region ?_;iterate 2 refine aA rfl rfl ?_
   refine z6 (yC Z Z Z Z Z Z Z) Z ?_;obtain⟨x41,hx41,q24⟩:=bS q24;refine TL.op (zH (m:=[x29]) (eI .i64) 1 hx41 Z Z Z Z Z Z Z Z Z (fun _=>Z)) Z (fun v42=>?_);refine aA Z Z ?_;refine aN Z ?_;refine T.region ?_;iterate 2 refine aA rfl rfl ?_
   refine TL.nil ?_;obtain rfl:=osi q24;exact⟨m22,Nat.lt_succ_self _,_,Gst.only [1,2,4,5,7,8,9,17,18,19,23,24,25] Z,v42,(t36.1,w64 (s20.2.1+1),x41),Z,i25⟩
  rcases z9 ht36 with ⟨c38,ht36⟩|⟨c38,ht36⟩;rotate_left
  ·refine zh Z (eN c38) ?_;refine T.skip ?_;obtain rfl:=osi ht36;exact⟨_,Gst.only [1,2,4,5,7,8,9,11,17,18,19,23,24,25] Z,y19,Z⟩
  refine zi Z (c38) ?_;refine aS ?_;iterate 2 refine aA rfl rfl ?_
  refine z6 (yC Z Z Z Z Z Z Z) Z ?_;obtain⟨x39,hx39,ht36⟩:=bS ht36;refine TL.op (zH (m:=[x16]) (eI .i64) 1 hx39 Z Z Z Z Z Z Z Z Z (fun _=>Z)) Z (fun v40=>?_);refine aA Z Z ?_;refine aN Z ?_;refine T.region ?_;refine aA Z Z ?_;refine TL.nil ?_;obtain rfl:=osi ht36;exact⟨_,Gst.only [1,2,4,5,7,8,9,11,17,18,19,23,24,25] Z,v40,Z⟩
 rcases z9 ht30 with ⟨c32,ht30⟩|⟨c32,ht30⟩
 ·refine yo zW [dT s20.1,dT (!s20.1),dT (!s20.1),.tup [],.tup [],.tup [],.tup [],.tup [],.tup [],.tup [],.tup [],.tup [],.tup [],.tup [],.tup [],.tup [],dT false] [1,2,4,5,7,8,9,11,17,18,19,23,24,25,45] (by decide +kernel) Z ?_ Z ?_;rotate_left
  ·obtain rfl:=osi ht30;exact⟨_,Gst.only [1,2,4,5,7,8,9,11,17,18,19,23,24,25,45] Z,Z⟩
  iterate 3 refine aB rfl rfl rfl ?_
  refine zq.no (Want.bool rfl rfl rfl rfl (by rw[(zS (c32))]; rfl)) rfl ?_;refine zq.no (Want.bool rfl rfl rfl rfl (by rw[(zS (c32))]; rfl)) rfl ?_;refine zq.no (Want.bool rfl rfl rfl rfl (by rw[(zS (c32))]; rfl)) rfl ?_;refine zq.no (Want.bool rfl rfl rfl rfl (by rw[(zS (c32))]; rfl)) rfl ?_;refine zq.no (Want.bool rfl rfl rfl rfl (by rw[(zS (c32))]; rfl)) rfl ?_;refine zq.no (Want.bool rfl rfl rfl rfl (by rw[(zS (c32))]; rfl)) rfl ?_;refine zq.no (Want.bool rfl rfl rfl rfl (by rw[(zS (c32))]; rfl)) rfl ?_;refine zq.no (Want.bool rfl rfl rfl rfl (by rw[(zS (c32))]; rfl)) rfl ?_;refine zq.no (Want.bool rfl rfl rfl rfl (by rw[(zS (c32))]; rfl)) rfl ?_;refine zq.no (Want.bool rfl rfl rfl rfl (by rw[(zS (c32))]; rfl)) rfl ?_;refine zq.no (Want.bool rfl rfl rfl rfl (by rw[(zS (c32))]; rfl)) rfl ?_;refine zq.no (Want.bool rfl rfl rfl rfl (by rw[(zS (c32))]; rfl)) rfl ?_;refine zq.no (Want.bool rfl rfl rfl rfl (by rw[(zS (c32))]; rfl)) rfl ?_;refine zq.yes (Want.plain Z) Z (zu Z (zS (c32)) Z) ?_;exact zq.nil
 obtain⟨x33,hx33,ht30⟩:=bS ht30;obtain⟨x34,hx34,ht30⟩:=bS ht30;obtain⟨x35,hx35,ht30⟩:=bS ht30;refine yo zW [dT s20.1,dT (!s20.1),dT (!s20.1),.nod [.sl 3 (List.map zb a0.fRows),dT a0.fTail,dN a0.fEnd],.sl 3 (List.map zb a0.fRows),dN x16,.nod [.sl 3 (List.map zB x33.fCells),dN x33.fEnd,dT x33.fHidden],.agg [.sl 3 (List.map zB x33.fCells),dN x33.fEnd,dT x33.fHidden],.nod [.sl 3 (List.map zb a0.fRows),dT a0.fTail,dN a0.fEnd],.sl 3 (List.map zb a0.fRows),dN x29,.nod [.sl 3 (List.map zB x34.fCells),dN x34.fEnd,dT x34.fHidden],.agg [.sl 3 (List.map zB x34.fCells),dN x34.fEnd,dT x34.fHidden],.sl 2 (List.map zP a1),dN x35,dT (decide (x35<0)),dT (decide (x35<0))] [1,2,4,5,7,8,9,11,17,18,19,23,24,25,45] (by decide +kernel) Z ?_ Z ?_;rotate_left
 ·obtain rfl:=osi ht30;exact⟨_,Gst.only [1,2,4,5,7,8,9,11,17,18,19,23,24,25,45] Z,Z⟩
 iterate 3 refine aB rfl rfl rfl ?_
 refine zq.yes (Want.bool rfl rfl rfl rfl (by rw[(yd (eN c32))]; rfl)) rfl (OpR.pure rfl) ?_;refine zq.yes (Want.bool rfl rfl rfl rfl (by rw[(yd (eN c32))]; rfl)) rfl (OpR.pure rfl) ?_;refine zq.yes (Want.bool rfl rfl rfl rfl (by rw[(yd (eN c32))]; rfl)) rfl (OpR.pure rfl) ?_;refine zq.yes (Want.bool rfl rfl rfl rfl (by rw[(yd (eN c32))]; rfl)) rfl (zp zb hx33 rfl rfl rfl rfl rfl) ?_;refine zq.yes (Want.bool rfl rfl rfl rfl (by rw[(yd (eN c32))]; rfl)) rfl (OpR.pure rfl) ?_;refine zq.yes (Want.bool rfl rfl rfl rfl (by rw[(yd (eN c32))]; rfl)) rfl (OpR.pure rfl) ?_;refine zq.yes (Want.bool rfl rfl rfl rfl (by rw[(yd (eN c32))]; rfl)) rfl (OpR.pure rfl) ?_;refine zq.yes (Want.bool rfl rfl rfl rfl (by rw[(yd (eN c32))]; rfl)) rfl (OpR.pure rfl) ?_;refine zq.yes (Want.bool rfl rfl rfl rfl (by rw[(yd (eN c32))]; rfl)) rfl (zp zb hx34 rfl rfl rfl rfl rfl) ?_;refine zq.yes (Want.bool rfl rfl rfl rfl (by rw[(yd (eN c32))]; rfl)) rfl (OpR.pure rfl) ?_;refine zq.yes (Want.bool rfl rfl rfl rfl (by rw[(yd (eN c32))]; rfl)) rfl (OpR.pure rfl) ?_;refine zq.yes (Want.bool rfl rfl rfl rfl (by rw[(yd (eN c32))]; rfl)) rfl (zf fn66 (qp hx35) rfl) ?_;refine zq.yes (Want.bool rfl rfl rfl rfl (by rw[(yd (eN c32))]; rfl)) rfl (OpR.pure rfl) ?_;refine zq.yes (Want.plain Z) Z (zt Z (yd (eN c32)) Z) ?_;exact zq.nil
noncomputable def xA.l1 (a0:List Int) (a1:Int) (s2:Int × Int):Option (Lp (Int × Int) Int):=
 if s2.2<(a0.length:Int) then
 bnd (idx a0 s2.2) fun x11=>
 bnd (if x11=a1 then
 some (w64 (s2.1+1))
else
 some s2.1:Option Int) fun t12=>
 some (Lp.next (t12,w64 (s2.2+1)))
else
 some (Lp.done s2.1)
noncomputable def xA (a0:List Int) (a1:Int):Option Int:=
 bnd (loop (xA.l1 a0 a1) (0,0):Option Int) fun t1=>
 some t1
theorem rE {a0:List Int} {a1:Int} {res:Int} (h0:xA a0 a1=some res):zn X 102 [.sl 1 (List.map (eI .i64) a0),dN a1] [] (fun x=>(dN res)) (fun x=>[]):=by
 unfold xA at h0;refine zg (X:=X) Z Tryz.func102 Z Z Tryz.ntmps102 Z Z ?_;refine aS ?_;refine aA Z Z ?_;refine aN Z ?_;refine aS ?_;refine aA Z Z ?_;refine aN Z ?_;refine T.seq ?_;refine aS ?_;refine aA Z Z ?_;refine z6 (zk (OpR.pure Z) (xh (xX _ _))) Z ?_;refine aA Z Z ?_;refine aN Z ?_;obtain⟨t1,ht1,h0⟩:=bS h0;refine zz (fun S'=>S'=⟨[(5,(dN t1)),(4,(dN 0))],[],21⟩) (fun _ h=>h) ?_ ?_;rotate_left
 ·rintro _ rfl;show T X _ _ _;refine aS ?_;iterate 2 refine aA rfl rfl ?_
  refine aN Z ?_;refine T.ret ?_;obtain rfl:=osi h0;exact rO [] [4] Z undef (cT Z ResL.nil) Z Z Z Z
 refine T.block ?_;obtain⟨n3,n8⟩:=zw ht1;refine T.loop (fun n S'=>∃ S'',Gst S' S''∧∃ s2:Int × Int,S''=⟨[(10,(dN s2.2)),(9,(dN (a0.length:Int))),(8,.sl 1 (List.map (eI .i64) a0)),(5,(dN s2.1)),(4,(dN 0)),(1,(dN a1))],[],21⟩∧wc (xA.l1 a0 a1) n s2=some t1) n3 ?_ ?_
 ·exact⟨_,Gst.only [1,4,5,8,9,10] Z,(0,0),Z,n8⟩
 rintro n3 _ ⟨_,g,s2,rfl,i7⟩;refine T.ghost g ?_;obtain⟨m4,q5,rfl,q6,i7⟩:=zx i7;unfold xA.l1 at q6;refine aS ?_;refine aA Z Z ?_;refine aN Z ?_;refine T.seq ?_;rcases z9 q6 with ⟨c10,q6⟩|⟨c10,q6⟩;rotate_left
 ·refine zh Z (eF c10) ?_;refine T.exit ?_;obtain rfl:=osi q6;obtain rfl:_=_:=i7;exact⟨_,Gst.only [4,5] Z,Z⟩
 refine zi Z (eT c10) ?_;refine aK Z ?_;refine T.seq ?_;refine T.block ?_;refine aS ?_;obtain⟨x11,hx11,q6⟩:=bS q6;refine z6 (zp (eI .i64) hx11 Z Z Z Z Z) Z ?_;iterate 2 refine aA rfl rfl ?_
 refine aN Z ?_;refine aS ?_;iterate 3 refine aA rfl rfl ?_
 refine aN Z ?_;obtain⟨t12,ht12,q6⟩:=bS q6;refine zz (fun S'=>S'=⟨[(10,(dN s2.2)),(9,(dN (a0.length:Int))),(8,.sl 1 (List.map (eI .i64) a0)),(5,(dN t12)),(4,(dN 0)),(1,(dN a1))],[],21⟩) (fun _ h=>h) ?_ ?_;rotate_left
 ·rintro _ rfl;show T X _ _ _;refine T.region ?_;iterate 2 refine aA rfl rfl ?_
  refine TL.nil ?_;obtain rfl:=osi q6;exact⟨m4,Nat.lt_succ_self _,_,Gst.only [1,4,5,8,9,10] Z,(t12,w64 (s2.2+1)),Z,i7⟩
 rcases z9 ht12 with ⟨c13,ht12⟩|⟨c13,ht12⟩;rotate_left
 ·refine zh Z (beq_eq_false_iff_ne.2 c13) ?_;refine T.skip ?_;obtain rfl:=osi ht12;exact⟨_,Gst.only [1,4,5,8,9,10] Z,Z⟩
 refine zi Z (beq_iff_eq.2 c13) ?_;refine T.region ?_;iterate 3 refine aA rfl rfl ?_
 refine TL.nil ?_;obtain rfl:=osi ht12;exact⟨_,Gst.only [1,4,5,8,9,10] Z,Z⟩
noncomputable def xx.l1 (a0:ref11_Grid) (a1:List Int) (a2:List Int) (s5:Int):Option (Lp Int (Ex Unit (ref11_Grid × Int))):=
 if s5<(a1.length:Int) then
 bnd (bnd (idx a1 s5) fun x16=>
 bnd (vU a0 x16) fun x17=>
 if x17=true then
 bnd (idx a2 s5) fun x19=>
 bnd (vU a0 x19) fun x20=>
 if x20=true then
 bnd (xA a1 x16) fun x22=>
 if x22=1 then
 bnd (xA a2 x16) fun x24=>
 some (!(x24==1))
else
 some true
else
 some true
else
 some true:Option Bool) fun t14=>
 if t14=true then
 some (Lp.done (Ex.ret ((⟨[],false,0⟩:ref11_Grid),1)))
else
 some (Lp.next (w64 (s5+1)))
else
 some (Lp.done (Ex.brk ()))
noncomputable def xx.l2 (a0:ref11_Grid) (a1:List Int) (a2:List Int) (s28:Int × (List ref08_Row) × Bool × Int):Option (Lp (Int × (List ref08_Row) × Bool × Int) ((List ref08_Row) × Bool × Int)):=
 if s28.1<(a1.length:Int) then
 bnd (idx a1 s28.1) fun x37=>
 bnd (idx a2 s28.1) fun x39=>
 bnd (idx a0.fRows x39) fun x40=>
 bnd (ve (⟨s28.2.1,s28.2.2.1,s28.2.2.2⟩:ref11_Grid) x37 x40) fun x41=>
 some (Lp.next (w64 (s28.1+1),x41.1.fRows,x41.1.fTail,x41.1.fEnd))
else
 some (Lp.done (s28.2.1,s28.2.2.1,s28.2.2.2))
noncomputable def xx (a0:ref11_Grid) (a1:List Int) (a2:List Int):Option (ref11_Grid × Int):=
 if (a1.length:Int)=(a2.length:Int) then
 bnd (loop (xx.l1 a0 a1 a2) 0:Option (Ex Unit (ref11_Grid × Int))) fun t3=>match t3 with
| .brk u4=>
 bnd (loop (xx.l2 a0 a1 a2) (0,a0.fRows,a0.fTail,a0.fEnd):Option ((List ref08_Row) × Bool × Int)) fun t27=>
 some ((⟨t27.1,t27.2.1,t27.2.2⟩:ref11_Grid),0)
| .ret u4=>some u4
else
 some ((⟨[],false,0⟩:ref11_Grid),1)
theorem ref16_Put_c {a0:ref11_Grid} {a1:List Int} {a2:List Int} {res:ref11_Grid × Int} (h0:xx a0 a1 a2=some res):zn X 41 [.agg [.sl 3 (List.map zb a0.fRows),dT a0.fTail,dN a0.fEnd],.sl 1 (List.map (eI .i64) a1),.sl 1 (List.map (eI .i64) a2)] [] (fun x=>.tup [.agg [.sl 3 (List.map zb res.1.fRows),dT res.1.fTail,dN res.1.fEnd],dN res.2]) (fun x=>[]):=by
 unfold xx at h0;refine zg (X:=X) Z Tryz.func41 Z Z Tryz.ntmps41 Z Z ?_;refine aS ?_;refine z6 (zD Z Z) Z ?_;refine TL.op (OpR.alloc Z Z (fun _=>Z)) Z (fun p1=>?_);refine aA Z Z ?_;refine aN Z ?_;refine T.seq ?_;refine aS ?_;refine aA Z Z ?_;refine z6 (zk (OpR.pure Z) (xh (xX _ _))) Z ?_;refine aA Z Z ?_;refine z6 (zk (OpR.pure Z) (xh (xX _ _))) Z ?_;refine aA Z Z ?_;refine aN Z ?_;rcases z9 h0 with ⟨c2,h0⟩|⟨c2,h0⟩;rotate_left
 ·refine zi Z (yd (beq_eq_false_iff_ne.2 c2)) ?_;refine aS ?_;refine z6 (OpR.build Z Z Z Z Z) Z ?_;refine zy (OpR.store 0 Z Z Z Z Z Z Z Z) ?_;refine aA Z Z ?_;refine aN Z ?_;refine T.ret ?_;obtain rfl:=osi h0;exact zC (ks:=[]) (Gst.trans (Gst.only [6,7] Z) (Gst.denil (ReS.cons Re.refl (ReS.cons Re.refl ReS.nil)) (ReO.var (ReL.cons (Re.base .nil) (ReL.cons Re.refl (ReL.cons Re.refl ReL.nil))) ReO.nil))) undef (cV 0 Z Z Z Z (cT Z ResL.nil)) Z Z Z Z
 refine zh Z (zS (beq_iff_eq.2 c2)) ?_;refine aK Z ?_;refine T.seq ?_;refine aS ?_;refine aA Z Z ?_;refine z6 (zk (OpR.pure Z) (xh (xX _ _))) Z ?_;refine aA Z Z ?_;refine aN Z ?_;obtain⟨t3,ht3,h0⟩:=bS h0;refine zz (fun S'=>∃ u4,t3=Ex.brk u4∧S'=⟨[(7,(dN 0)),(6,(dP (blk p1))),(3,.nod [.sl 3 (List.map zb a0.fRows),dT a0.fTail,dN a0.fEnd]),(2,.sl 1 (List.map (eI .i64) a2)),(1,.sl 1 (List.map (eI .i64) a1))],[.var (blk p1) [.val (.slice none 0 0),dT false,dN 0] 31],83⟩) (fun _ h=>h) ?_ ?_;rotate_left
 ·rintro _ ⟨u4,rfl,rfl⟩;show T X _ _ _;refine aS ?_;refine aA Z Z ?_;refine TL.op (OpR.alloc Z Z (fun _=>Z)) Z (fun p26=>?_);refine zy (OpR.store 1 Z Z Z Z Z Z Z Z) ?_;refine aN Z ?_;refine T.seq ?_;refine aS ?_;refine aA Z Z ?_;refine z6 (zk (OpR.pure Z) (xh (xX _ _))) Z ?_;refine aA Z Z ?_;refine aN Z ?_;obtain⟨t27,ht27,h0⟩:=bS h0;refine zz (fun S'=>S'=⟨[(9,(dP (blk p26))),(7,(dN 0)),(6,(dP (blk p1)))],[.var (blk p1) [.val (.slice none 0 0),dT false,dN 0] 31,.var (blk p26) [.sl 3 (List.map zb t27.1),dT t27.2.1,dN t27.2.2] 31],83⟩) (fun _ h=>h) ?_ ?_;rotate_left
  ·rintro _ rfl;show T X _ _ _;refine aS ?_;refine z6 (z7 1 Z Z Z Z) Z ?_;refine zy (OpR.store 0 Z Z Z Z Z Z Z Z) ?_;refine aA Z Z ?_;refine aN Z ?_;refine T.ret ?_;obtain rfl:=osi h0;exact rP [] [6,7] [0] Z Z Z undef (cV 0 Z Z Z Z (cT Z ResL.nil)) Z Z Z Z
  refine T.block ?_;obtain⟨n29,n34⟩:=zw ht27;refine T.loop (fun n S'=>∃ S'',Gst S' S''∧∃ s28:Int × (List ref08_Row) × Bool × Int,S''=⟨[(62,(dN s28.1)),(61,(dN (a1.length:Int))),(60,.sl 1 (List.map (eI .i64) a1)),(9,(dP (blk p26))),(7,(dN 0)),(6,(dP (blk p1))),(3,.nod [.sl 3 (List.map zb a0.fRows),dT a0.fTail,dN a0.fEnd]),(2,.sl 1 (List.map (eI .i64) a2))],[.var (blk p1) [.val (.slice none 0 0),dT false,dN 0] 31,.var (blk p26) [.sl 3 (List.map zb s28.2.1),dT s28.2.2.1,dN s28.2.2.2] 31],83⟩∧wc (xx.l2 a0 a1 a2) n s28=some t27) n29 ?_ ?_
  ·exact⟨_,Gst.only [2,3,6,7,9,60,61,62] Z,(0,a0.fRows,a0.fTail,a0.fEnd),Z,n34⟩
  rintro n29 _ ⟨_,g,s28,rfl,i33⟩;refine T.ghost g ?_;obtain⟨m30,q31,rfl,q32,i33⟩:=zx i33;unfold xx.l2 at q32;refine aS ?_;refine aA Z Z ?_;refine aN Z ?_;refine T.seq ?_;rcases z9 q32 with ⟨c36,q32⟩|⟨c36,q32⟩;rotate_left
  ·refine zh Z (eF c36) ?_;refine T.exit ?_;obtain rfl:=osi q32;obtain rfl:_=_:=i33;exact⟨_,Gst.only [6,7,9] Z,Z⟩
  refine zi Z (eT c36) ?_;refine aK Z ?_;refine T.seq ?_;refine T.block ?_;refine aS ?_;refine aA Z Z ?_;obtain⟨x37,hx37,q32⟩:=bS q32;refine z6 (zp (eI .i64) hx37 Z Z Z Z Z) Z ?_;iterate 3 refine aA rfl rfl ?_
  refine aN Z ?_;obtain⟨x39,hx39,q32⟩:=bS q32;obtain⟨x40,hx40,q32⟩:=bS q32;obtain⟨x41,hx41,q32⟩:=bS q32;refine yx zW (fun env38=>[.agg [.sl 3 (List.map zb s28.2.1),dT s28.2.2.1,dN s28.2.2.2],dN x37,.nod [.sl 3 (List.map zb a0.fRows),dT a0.fTail,dN a0.fEnd],.sl 3 (List.map zb a0.fRows),.sl 1 (List.map (eI .i64) a2),dN s28.1,.nod [dN x39],dN x39,.nod [.sl 3 (List.map zB x40.fCells),dN x40.fEnd,dT x40.fHidden],.agg [.sl 3 (List.map zB x40.fCells),dN x40.fEnd,dT x40.fHidden],.tup [.agg [.sl 3 (List.map zb x41.1.fRows),dT x41.1.fTail,dN x41.1.fEnd],dN x41.2],.tup [.agg [.sl 3 (List.map zb x41.1.fRows),dT x41.1.fTail,dN x41.1.fEnd],dN x41.2],.agg [.sl 3 (List.map zb x41.1.fRows),dT x41.1.fTail,dN x41.1.fEnd],dN x41.2,.dead]) (fun D env38=>[.var (blk p1) [.val (.slice none 0 0),dT false,dN 0] 31,(bif D 14 then .var (blk p26) [.sl 3 (List.map zb x41.1.fRows),dT x41.1.fTail,dN x41.1.fEnd] 31 else .var (blk p26) [.sl 3 (List.map zb s28.2.1),dT s28.2.2.1,dN s28.2.2.2] 31)]) [0,0,0,4,0,0,48,112,252,508,1023,2047,4095,4095,8191] [2,3,6,7,9,60,61,62] _ (by decide +kernel) (by decide +kernel) (fun _=>Z) (fun _=>Z) ?_ (fun _=>Z) (fun _=>Z) ?_;rotate_left
  ·intro env38;show T X _ _ _;refine T.region ?_;iterate 2 refine aA rfl rfl ?_
   refine TL.nil ?_;obtain rfl:=osi q32;exact⟨m30,Nat.lt_succ_self _,_,Gst.only [2,3,6,7,9,60,61,62] Z,(w64 (s28.1+1),x41.1.fRows,x41.1.fTail,x41.1.fEnd),Z,i33⟩
  refine zj true ?_ (fun _ _ _ _ _ _ _=>Z) ?_
  ·intro D env38 hA;have e14:D 14=false:=hA.no 14 _ rfl rfl;exact zI [(14,false)] ⟨e14,trivial⟩ (Want.plain Z) (z7 1 Z Z Z Z) (fun x=>Z) (fun x=>Z)
  iterate 5 refine aC ?_
  refine oT (.nod [dN x39]) (fun _ _=>zp (eI .i64) hx39 Z Z Z Z Z) ?_;refine aC ?_;refine oT (.nod [.sl 3 (List.map zB x40.fCells),dN x40.fEnd,dT x40.fHidden]) (fun _ _=>zp zb hx40 Z Z Z Z Z) ?_;refine aC ?_;refine oT (.tup [.agg [.sl 3 (List.map zb x41.1.fRows),dT x41.1.fTail,dN x41.1.fEnd],dN x41.2]) (fun _ _=>zf fn103 (ref11_Put_c hx41) Z) ?_;iterate 3 refine aC ?_
  refine zj true ?_ (fun _ _ _ _ _ _ _=>Z) ?_
  ·intro D env38 hA;exact zI [(14,false)] ⟨hA.me,trivial⟩ (Want.plain Z) (OpR.store 1 Z Z Z Z Z Z Z Z) (fun x=>Z) (fun x=>Z)
  exact trivial
 refine T.block ?_;obtain⟨n6,n11⟩:=zw ht3;refine T.loop (fun n S'=>∃ S'',Gst S' S''∧∃ s5:Int,S''=⟨[(20,(dN s5)),(19,(dN (a1.length:Int))),(7,(dN 0)),(6,(dP (blk p1))),(3,.nod [.sl 3 (List.map zb a0.fRows),dT a0.fTail,dN a0.fEnd]),(2,.sl 1 (List.map (eI .i64) a2)),(1,.sl 1 (List.map (eI .i64) a1))],[.var (blk p1) [.val (.slice none 0 0),dT false,dN 0] 31],83⟩∧wc (xx.l1 a0 a1 a2) n s5=some t3) n6 ?_ ?_
 ·exact⟨_,Gst.only [1,2,3,6,7,19,20] Z,0,Z,n11⟩
 rintro n6 _ ⟨_,g,s5,rfl,i10⟩;refine T.ghost g ?_;obtain⟨m7,q8,rfl,q9,i10⟩:=zx i10;unfold xx.l1 at q9;refine aS ?_;refine aA Z Z ?_;refine aN Z ?_;refine T.seq ?_;rcases z9 q9 with ⟨c13,q9⟩|⟨c13,q9⟩;rotate_left
 ·refine zh Z (eF c13) ?_;refine T.exit ?_;obtain rfl:=osi q9;obtain rfl:_=_:=i10;exact⟨_,Gst.only [1,2,3,6,7] Z,_,Z,Z⟩
 refine zi Z (eT c13) ?_;refine aK Z ?_;refine T.seq ?_;refine T.block ?_;refine aS ?_;iterate 2 refine aA rfl rfl ?_
 refine aN Z ?_;refine T.seq ?_;obtain⟨t14,ht14,q9⟩:=bS q9;refine zz (fun S'=>S'=⟨[(56,(dT t14)),(20,(dN s5)),(19,(dN (a1.length:Int))),(7,(dN 0)),(6,(dP (blk p1))),(3,.nod [.sl 3 (List.map zb a0.fRows),dT a0.fTail,dN a0.fEnd]),(2,.sl 1 (List.map (eI .i64) a2)),(1,.sl 1 (List.map (eI .i64) a1))],[.var (blk p1) [.val (.slice none 0 0),dT false,dN 0] 31],83⟩) (fun _ h=>h) ?_ ?_;rotate_left
 ·rintro _ rfl;show T X _ _ _;rcases z9 q9 with ⟨c25,q9⟩|⟨c25,q9⟩;rotate_left
  ·refine zh Z (eN c25) ?_;refine aK Z ?_;refine T.region ?_;iterate 2 refine aA rfl rfl ?_
   refine TL.nil ?_;obtain rfl:=osi q9;exact⟨m7,Nat.lt_succ_self _,_,Gst.only [1,2,3,6,7,19,20] Z,w64 (s5+1),Z,i10⟩
  refine zi Z (c25) ?_;refine aS ?_;refine z6 (OpR.build Z Z Z Z Z) Z ?_;refine zy (OpR.store 0 Z Z Z Z Z Z Z Z) ?_;refine aA Z Z ?_;refine aN Z ?_;refine T.ret ?_;obtain rfl:=osi q9;obtain rfl:_=_:=i10;obtain rfl:=osi h0;exact zC (ks:=[]) (Gst.trans (Gst.only [6,7] Z) (Gst.denil (ReS.cons Re.refl (ReS.cons Re.refl ReS.nil)) (ReO.var (ReL.cons (Re.base .nil) (ReL.cons Re.refl (ReL.cons Re.refl ReL.nil))) ReO.nil))) undef (cV 0 Z Z Z Z (cT Z ResL.nil)) Z Z Z Z
 obtain⟨x16,hx16,ht14⟩:=bS ht14;obtain⟨x17,hx17,ht14⟩:=bS ht14;rcases z9 ht14 with ⟨c18,ht14⟩|⟨c18,ht14⟩;rotate_left
 ·refine yo zW [.agg [.sl 3 (List.map zb a0.fRows),dT a0.fTail,dN a0.fEnd],.sl 1 (List.map (eI .i64) a1),dN s5,.nod [dN x16],dN x16,dT x17,dT (!x17),dT (!x17),.tup [],.tup [],.tup [],.tup [],.tup [],.tup [],.tup [],dT true,dT true,.tup [],.tup [],.tup [],.tup [],.tup [],.tup [],.tup [],dT true,dT true,.tup [],.tup [],.tup [],.tup [],.tup [],.tup [],.tup [],dT true] [1,2,3,6,7,19,20,56] (by decide +kernel) Z ?_ Z ?_;rotate_left
  ·obtain rfl:=osi ht14;exact⟨_,Gst.only [1,2,3,6,7,19,20,56] Z,Z⟩
  iterate 3 refine aB rfl rfl rfl ?_
  refine zq.yes (Want.plain Z) Z (zp (eI .i64) hx16 Z Z Z Z Z) ?_;refine aB Z Z Z ?_;refine zq.yes (Want.plain Z) Z (zf fn64 (vV hx17) Z) ?_;iterate 2 refine aB rfl rfl rfl ?_
  refine zq.no (Want.bool rfl rfl rfl rfl (by rw[(yd (eN c18))]; rfl)) rfl ?_;refine zq.no (Want.bool rfl rfl rfl rfl (by rw[(yd (eN c18))]; rfl)) rfl ?_;refine zq.no (Want.bool rfl rfl rfl rfl (by rw[(yd (eN c18))]; rfl)) rfl ?_;refine zq.no (Want.bool rfl rfl rfl rfl (by rw[(yd (eN c18))]; rfl)) rfl ?_;refine zq.no (Want.bool rfl rfl rfl rfl (by rw[(yd (eN c18))]; rfl)) rfl ?_;refine zq.no (Want.bool rfl rfl rfl rfl (by rw[(yd (eN c18))]; rfl)) rfl ?_;refine zq.no (Want.bool rfl rfl rfl rfl (by rw[(yd (eN c18))]; rfl)) rfl ?_;refine zq.yes (Want.plain Z) Z (zt Z (yd (eN c18)) Z) ?_;refine aB Z Z Z ?_;refine zq.no (Want.bool Z Z Z Z Z) Z ?_;refine zq.no (Want.bool Z Z Z Z Z) Z ?_;refine zq.no (Want.bool Z Z Z Z Z) Z ?_;refine zq.no (Want.bool Z Z Z Z Z) Z ?_;refine zq.no (Want.bool Z Z Z Z Z) Z ?_;refine zq.no (Want.bool Z Z Z Z Z) Z ?_;refine zq.no (Want.bool Z Z Z Z Z) Z ?_;refine zq.yes (Want.plain Z) Z (zt Z Z Z) ?_;refine aB Z Z Z ?_;refine zq.no (Want.bool Z Z Z Z Z) Z ?_;refine zq.no (Want.bool Z Z Z Z Z) Z ?_;refine zq.no (Want.bool Z Z Z Z Z) Z ?_;refine zq.no (Want.bool Z Z Z Z Z) Z ?_;refine zq.no (Want.bool Z Z Z Z Z) Z ?_;refine zq.no (Want.bool Z Z Z Z Z) Z ?_;refine zq.no (Want.bool Z Z Z Z Z) Z ?_;refine zq.yes (Want.plain Z) Z (zt Z Z Z) ?_;exact zq.nil
 obtain⟨x19,hx19,ht14⟩:=bS ht14;obtain⟨x20,hx20,ht14⟩:=bS ht14;rcases z9 ht14 with ⟨c21,ht14⟩|⟨c21,ht14⟩;rotate_left
 ·refine yo zW [.agg [.sl 3 (List.map zb a0.fRows),dT a0.fTail,dN a0.fEnd],.sl 1 (List.map (eI .i64) a1),dN s5,.nod [dN x16],dN x16,dT x17,dT (!x17),dT (!x17),.agg [.sl 3 (List.map zb a0.fRows),dT a0.fTail,dN a0.fEnd],.sl 1 (List.map (eI .i64) a2),dN s5,.nod [dN x19],dN x19,dT x20,dT (!x20),dT (!x20),dT (!x20),.tup [],.tup [],.tup [],.tup [],.tup [],.tup [],.tup [],dT true,dT true,.tup [],.tup [],.tup [],.tup [],.tup [],.tup [],.tup [],dT true] [1,2,3,6,7,19,20,56] (by decide +kernel) Z ?_ Z ?_;rotate_left
  ·obtain rfl:=osi ht14;exact⟨_,Gst.only [1,2,3,6,7,19,20,56] Z,Z⟩
  iterate 3 refine aB rfl rfl rfl ?_
  refine zq.yes (Want.plain Z) Z (zp (eI .i64) hx16 Z Z Z Z Z) ?_;refine aB Z Z Z ?_;refine zq.yes (Want.plain Z) Z (zf fn64 (vV hx17) Z) ?_;iterate 2 refine aB rfl rfl rfl ?_
  refine zq.yes (Want.bool rfl rfl rfl rfl (by rw[(zS (c18))]; rfl)) rfl (OpR.pure rfl) ?_;refine zq.yes (Want.bool rfl rfl rfl rfl (by rw[(zS (c18))]; rfl)) rfl (OpR.pure rfl) ?_;refine zq.yes (Want.bool rfl rfl rfl rfl (by rw[(zS (c18))]; rfl)) rfl (OpR.pure rfl) ?_;refine zq.yes (Want.bool rfl rfl rfl rfl (by rw[(zS (c18))]; rfl)) rfl (zp (eI .i64) hx19 rfl rfl rfl rfl rfl) ?_;refine zq.yes (Want.bool rfl rfl rfl rfl (by rw[(zS (c18))]; rfl)) rfl (OpR.pure rfl) ?_;refine zq.yes (Want.bool rfl rfl rfl rfl (by rw[(zS (c18))]; rfl)) rfl (zf fn64 (vV hx20) rfl) ?_;refine zq.yes (Want.bool rfl rfl rfl rfl (by rw[(zS (c18))]; rfl)) rfl (OpR.pure rfl) ?_;refine zq.yes (Want.plain Z) Z (zu Z (zS (c18)) Z) ?_;refine aB Z Z Z ?_;refine zq.no (Want.bool rfl rfl rfl rfl (by rw[(yd (eN c21))]; rfl)) rfl ?_;refine zq.no (Want.bool rfl rfl rfl rfl (by rw[(yd (eN c21))]; rfl)) rfl ?_;refine zq.no (Want.bool rfl rfl rfl rfl (by rw[(yd (eN c21))]; rfl)) rfl ?_;refine zq.no (Want.bool rfl rfl rfl rfl (by rw[(yd (eN c21))]; rfl)) rfl ?_;refine zq.no (Want.bool rfl rfl rfl rfl (by rw[(yd (eN c21))]; rfl)) rfl ?_;refine zq.no (Want.bool rfl rfl rfl rfl (by rw[(yd (eN c21))]; rfl)) rfl ?_;refine zq.no (Want.bool rfl rfl rfl rfl (by rw[(yd (eN c21))]; rfl)) rfl ?_;refine zq.yes (Want.plain Z) Z (zt Z (yd (eN c21)) Z) ?_;refine aB Z Z Z ?_;refine zq.no (Want.bool Z Z Z Z Z) Z ?_;refine zq.no (Want.bool Z Z Z Z Z) Z ?_;refine zq.no (Want.bool Z Z Z Z Z) Z ?_;refine zq.no (Want.bool Z Z Z Z Z) Z ?_;refine zq.no (Want.bool Z Z Z Z Z) Z ?_;refine zq.no (Want.bool Z Z Z Z Z) Z ?_;refine zq.no (Want.bool Z Z Z Z Z) Z ?_;refine zq.yes (Want.plain Z) Z (zt Z Z Z) ?_;exact zq.nil
 obtain⟨x22,hx22,ht14⟩:=bS ht14;rcases z9 ht14 with ⟨c23,ht14⟩|⟨c23,ht14⟩;rotate_left
 ·refine yo zW [.agg [.sl 3 (List.map zb a0.fRows),dT a0.fTail,dN a0.fEnd],.sl 1 (List.map (eI .i64) a1),dN s5,.nod [dN x16],dN x16,dT x17,dT (!x17),dT (!x17),.agg [.sl 3 (List.map zb a0.fRows),dT a0.fTail,dN a0.fEnd],.sl 1 (List.map (eI .i64) a2),dN s5,.nod [dN x19],dN x19,dT x20,dT (!x20),dT (!x20),dT (!x20),.sl 1 (List.map (eI .i64) a1),.sl 1 (List.map (eI .i64) a1),dN s5,.nod [dN x16],dN x16,dN x22,dT (!(x22==1)),dT (!(x22==1)),dT (!(x22==1)),.tup [],.tup [],.tup [],.tup [],.tup [],.tup [],.tup [],dT true] [1,2,3,6,7,19,20,56] (by decide +kernel) Z ?_ Z ?_;rotate_left
  ·obtain rfl:=osi ht14;exact⟨_,Gst.only [1,2,3,6,7,19,20,56] Z,Z⟩
  iterate 3 refine aB rfl rfl rfl ?_
  refine zq.yes (Want.plain Z) Z (zp (eI .i64) hx16 Z Z Z Z Z) ?_;refine aB Z Z Z ?_;refine zq.yes (Want.plain Z) Z (zf fn64 (vV hx17) Z) ?_;iterate 2 refine aB rfl rfl rfl ?_
  refine zq.yes (Want.bool rfl rfl rfl rfl (by rw[(zS (c18))]; rfl)) rfl (OpR.pure rfl) ?_;refine zq.yes (Want.bool rfl rfl rfl rfl (by rw[(zS (c18))]; rfl)) rfl (OpR.pure rfl) ?_;refine zq.yes (Want.bool rfl rfl rfl rfl (by rw[(zS (c18))]; rfl)) rfl (OpR.pure rfl) ?_;refine zq.yes (Want.bool rfl rfl rfl rfl (by rw[(zS (c18))]; rfl)) rfl (zp (eI .i64) hx19 rfl rfl rfl rfl rfl) ?_;refine zq.yes (Want.bool rfl rfl rfl rfl (by rw[(zS (c18))]; rfl)) rfl (OpR.pure rfl) ?_;refine zq.yes (Want.bool rfl rfl rfl rfl (by rw[(zS (c18))]; rfl)) rfl (zf fn64 (vV hx20) rfl) ?_;refine zq.yes (Want.bool rfl rfl rfl rfl (by rw[(zS (c18))]; rfl)) rfl (OpR.pure rfl) ?_;refine zq.yes (Want.plain Z) Z (zu Z (zS (c18)) Z) ?_;refine aB Z Z Z ?_;refine zq.yes (Want.bool rfl rfl rfl rfl (by rw[(zS (c21))]; rfl)) rfl (OpR.pure rfl) ?_;refine zq.yes (Want.bool rfl rfl rfl rfl (by rw[(zS (c21))]; rfl)) rfl (OpR.pure rfl) ?_;refine zq.yes (Want.bool rfl rfl rfl rfl (by rw[(zS (c21))]; rfl)) rfl (OpR.pure rfl) ?_;refine zq.yes (Want.bool rfl rfl rfl rfl (by rw[(zS (c21))]; rfl)) rfl (zp (eI .i64) hx16 rfl rfl rfl rfl rfl) ?_;refine zq.yes (Want.bool rfl rfl rfl rfl (by rw[(zS (c21))]; rfl)) rfl (OpR.pure rfl) ?_;refine zq.yes (Want.bool rfl rfl rfl rfl (by rw[(zS (c21))]; rfl)) rfl (zf fn102 (rE hx22) rfl) ?_;refine zq.yes (Want.bool rfl rfl rfl rfl (by rw[(zS (c21))]; rfl)) rfl (OpR.pure rfl) ?_;refine zq.yes (Want.plain Z) Z (zu Z (zS (c21)) Z) ?_;refine aB Z Z Z ?_;refine zq.no (Want.bool rfl rfl rfl rfl (by rw[(yd (beq_eq_false_iff_ne.2 c23))]; rfl)) rfl ?_;refine zq.no (Want.bool rfl rfl rfl rfl (by rw[(yd (beq_eq_false_iff_ne.2 c23))]; rfl)) rfl ?_;refine zq.no (Want.bool rfl rfl rfl rfl (by rw[(yd (beq_eq_false_iff_ne.2 c23))]; rfl)) rfl ?_;refine zq.no (Want.bool rfl rfl rfl rfl (by rw[(yd (beq_eq_false_iff_ne.2 c23))]; rfl)) rfl ?_;refine zq.no (Want.bool rfl rfl rfl rfl (by rw[(yd (beq_eq_false_iff_ne.2 c23))]; rfl)) rfl ?_;refine zq.no (Want.bool rfl rfl rfl rfl (by rw[(yd (beq_eq_false_iff_ne.2 c23))]; rfl)) rfl ?_;refine zq.no (Want.bool rfl rfl rfl rfl (by rw[(yd (beq_eq_false_iff_ne.2 c23))]; rfl)) rfl ?_;refine zq.yes (Want.plain Z) Z (zt Z (yd (beq_eq_false_iff_ne.2 c23)) Z) ?_;exact zq.nil
 obtain⟨x24,hx24,ht14⟩:=bS ht14;refine yo zW [.agg [.sl 3 (List.map zb a0.fRows),dT a0.fTail,dN a0.fEnd],.sl 1 (List.map (eI .i64) a1),dN s5,.nod [dN x16],dN x16,dT x17,dT (!x17),dT (!x17),.agg [.sl 3 (List.map zb a0.fRows),dT a0.fTail,dN a0.fEnd],.sl 1 (List.map (eI .i64) a2),dN s5,.nod [dN x19],dN x19,dT x20,dT (!x20),dT (!x20),dT (!x20),.sl 1 (List.map (eI .i64) a1),.sl 1 (List.map (eI .i64) a1),dN s5,.nod [dN x16],dN x16,dN x22,dT (!(x22==1)),dT (!(x22==1)),dT (!(x22==1)),.sl 1 (List.map (eI .i64) a2),.sl 1 (List.map (eI .i64) a1),dN s5,.nod [dN x16],dN x16,dN x24,dT (!(x24==1)),dT (!(x24==1))] [1,2,3,6,7,19,20,56] (by decide +kernel) Z ?_ Z ?_;rotate_left
 ·obtain rfl:=osi ht14;exact⟨_,Gst.only [1,2,3,6,7,19,20,56] Z,Z⟩
 iterate 3 refine aB rfl rfl rfl ?_
 refine zq.yes (Want.plain Z) Z (zp (eI .i64) hx16 Z Z Z Z Z) ?_;refine aB Z Z Z ?_;refine zq.yes (Want.plain Z) Z (zf fn64 (vV hx17) Z) ?_;iterate 2 refine aB rfl rfl rfl ?_
 refine zq.yes (Want.bool rfl rfl rfl rfl (by rw[(zS (c18))]; rfl)) rfl (OpR.pure rfl) ?_;refine zq.yes (Want.bool rfl rfl rfl rfl (by rw[(zS (c18))]; rfl)) rfl (OpR.pure rfl) ?_;refine zq.yes (Want.bool rfl rfl rfl rfl (by rw[(zS (c18))]; rfl)) rfl (OpR.pure rfl) ?_;refine zq.yes (Want.bool rfl rfl rfl rfl (by rw[(zS (c18))]; rfl)) rfl (zp (eI .i64) hx19 rfl rfl rfl rfl rfl) ?_;refine zq.yes (Want.bool rfl rfl rfl rfl (by rw[(zS (c18))]; rfl)) rfl (OpR.pure rfl) ?_;refine zq.yes (Want.bool rfl rfl rfl rfl (by rw[(zS (c18))]; rfl)) rfl (zf fn64 (vV hx20) rfl) ?_;refine zq.yes (Want.bool rfl rfl rfl rfl (by rw[(zS (c18))]; rfl)) rfl (OpR.pure rfl) ?_;refine zq.yes (Want.plain Z) Z (zu Z (zS (c18)) Z) ?_;refine aB Z Z Z ?_;refine zq.yes (Want.bool rfl rfl rfl rfl (by rw[(zS (c21))]; rfl)) rfl (OpR.pure rfl) ?_;refine zq.yes (Want.bool rfl rfl rfl rfl (by rw[(zS (c21))]; rfl)) rfl (OpR.pure rfl) ?_;refine zq.yes (Want.bool rfl rfl rfl rfl (by rw[(zS (c21))]; rfl)) rfl (OpR.pure rfl) ?_;refine zq.yes (Want.bool rfl rfl rfl rfl (by rw[(zS (c21))]; rfl)) rfl (zp (eI .i64) hx16 rfl rfl rfl rfl rfl) ?_;refine zq.yes (Want.bool rfl rfl rfl rfl (by rw[(zS (c21))]; rfl)) rfl (OpR.pure rfl) ?_;refine zq.yes (Want.bool rfl rfl rfl rfl (by rw[(zS (c21))]; rfl)) rfl (zf fn102 (rE hx22) rfl) ?_;refine zq.yes (Want.bool rfl rfl rfl rfl (by rw[(zS (c21))]; rfl)) rfl (OpR.pure rfl) ?_;refine zq.yes (Want.plain Z) Z (zu Z (zS (c21)) Z) ?_;refine aB Z Z Z ?_;refine zq.yes (Want.bool rfl rfl rfl rfl (by rw[(zS (beq_iff_eq.2 c23))]; rfl)) rfl (OpR.pure rfl) ?_;refine zq.yes (Want.bool rfl rfl rfl rfl (by rw[(zS (beq_iff_eq.2 c23))]; rfl)) rfl (OpR.pure rfl) ?_;refine zq.yes (Want.bool rfl rfl rfl rfl (by rw[(zS (beq_iff_eq.2 c23))]; rfl)) rfl (OpR.pure rfl) ?_;refine zq.yes (Want.bool rfl rfl rfl rfl (by rw[(zS (beq_iff_eq.2 c23))]; rfl)) rfl (zp (eI .i64) hx16 rfl rfl rfl rfl rfl) ?_;refine zq.yes (Want.bool rfl rfl rfl rfl (by rw[(zS (beq_iff_eq.2 c23))]; rfl)) rfl (OpR.pure rfl) ?_;refine zq.yes (Want.bool rfl rfl rfl rfl (by rw[(zS (beq_iff_eq.2 c23))]; rfl)) rfl (zf fn102 (rE hx24) rfl) ?_;refine zq.yes (Want.bool rfl rfl rfl rfl (by rw[(zS (beq_iff_eq.2 c23))]; rfl)) rfl (OpR.pure rfl) ?_;refine zq.yes (Want.plain Z) Z (zu Z (zS (beq_iff_eq.2 c23)) Z) ?_;exact zq.nil
noncomputable def tv (a0:ref11_Grid) (a1:List ref16_By):Option (ref11_Grid × Int):=
 bnd (xB a1) fun x2=>
 if x2=true then
 bnd (yW a0) fun x5=>
 bnd (yV a0 a1) fun x6=>
 bnd (xx a0 x5 x6) fun x7=>
 some (x7.1,x7.2)
else
 some ((⟨[],false,0⟩:ref11_Grid),1)
theorem ref16_Sort_c {a0:ref11_Grid} {a1:List ref16_By} {res:ref11_Grid × Int} (h0:tv a0 a1=some res):zn X 55 [.agg [.sl 3 (List.map zb a0.fRows),dT a0.fTail,dN a0.fEnd],.sl 2 (List.map zP a1)] [] (fun x=>.tup [.agg [.sl 3 (List.map zb res.1.fRows),dT res.1.fTail,dN res.1.fEnd],dN res.2]) (fun x=>[]):=by
 unfold tv at h0;refine zg (X:=X) Z Tryz.func55 Z Z Tryz.ntmps55 Z Z ?_;refine aS ?_;refine z6 (zD Z Z) Z ?_;refine TL.op (OpR.alloc Z Z (fun _=>Z)) Z (fun p1=>?_);refine aA Z Z ?_;refine aN Z ?_;refine T.seq ?_;refine aS ?_;refine aA Z Z ?_;obtain⟨x2,hx2,h0⟩:=bS h0;refine z6 (zf fn57 (wE hx2) Z) Z ?_;refine aA Z Z ?_;refine aN Z ?_;rcases z9 h0 with ⟨c3,h0⟩|⟨c3,h0⟩;rotate_left
 ·refine zi Z (yd (eN c3)) ?_;refine aS ?_;refine z6 (OpR.build Z Z Z Z Z) Z ?_;refine zy (OpR.store 0 Z Z Z Z Z Z Z Z) ?_;refine aA Z Z ?_;refine aN Z ?_;refine T.ret ?_;obtain rfl:=osi h0;exact zC (ks:=[]) (Gst.trans (Gst.only [4,5] Z) (Gst.denil (ReS.cons Re.refl (ReS.cons Re.refl ReS.nil)) (ReO.var (ReL.cons (Re.base .nil) (ReL.cons Re.refl (ReL.cons Re.refl ReL.nil))) ReO.nil))) undef (cV 0 Z Z Z Z (cT Z ResL.nil)) Z Z Z Z
 refine zh Z (zS (c3)) ?_;refine aK Z ?_;refine T.seq ?_;obtain⟨x5,hx5,h0⟩:=bS h0;obtain⟨x6,hx6,h0⟩:=bS h0;obtain⟨x7,hx7,h0⟩:=bS h0;refine yx zW (fun env4=>[.agg [.sl 3 (List.map zb a0.fRows),dT a0.fTail,dN a0.fEnd],.agg [.sl 3 (List.map zb a0.fRows),dT a0.fTail,dN a0.fEnd],.sl 1 (List.map (eI .i64) x5),.agg [.sl 3 (List.map zb a0.fRows),dT a0.fTail,dN a0.fEnd],.sl 2 (List.map zP a1),.sl 1 (List.map (eI .i64) x6),.tup [.agg [.sl 3 (List.map zb x7.1.fRows),dT x7.1.fTail,dN x7.1.fEnd],dN x7.2],.agg [.sl 3 (List.map zb x7.1.fRows),dT x7.1.fTail,dN x7.1.fEnd],dN x7.2,.dead,dN x7.2]) (fun D env4=>[(bif D 9 then .var (blk p1) [.sl 3 (List.map zb x7.1.fRows),dT x7.1.fTail,dN x7.1.fEnd] 31 else .var (blk p1) [.val (.slice none 0 0),dT false,dN 0] 31)]) [0,0,2,0,0,30,63,127,127,511,1023] [4,5] _ (by decide +kernel) (by decide +kernel) (fun _=>Z) (fun _=>Z) ?_ (fun _=>Z) (fun _=>Z) ?_;rotate_left
 ·intro env4;show T X _ _ _;refine T.ret ?_;obtain rfl:=osi h0;exact rO [] [4,5] Z undef (cV 0 Z Z Z Z (cT Z ResL.nil)) Z Z Z Z
 iterate 2 refine aC ?_
 refine oT (.sl 1 (List.map (eI .i64) x5)) (fun _ _=>zf fn63 (sF hx5) Z) ?_;iterate 2 refine aC ?_
 refine oT (.sl 1 (List.map (eI .i64) x6)) (fun _ _=>zf fn60 (uJ hx6) Z) ?_;refine oT (.tup [.agg [.sl 3 (List.map zb x7.1.fRows),dT x7.1.fTail,dN x7.1.fEnd],dN x7.2]) (fun _ _=>zf fn41 (ref16_Put_c hx7) Z) ?_;iterate 2 refine aC ?_
 refine zj true ?_ (fun _ _ _ _ _ _ _=>Z) ?_
 ·intro D env4 hA;exact zI [(9,false)] ⟨hA.me,trivial⟩ (Want.plain Z) (OpR.store 0 Z Z Z Z Z Z Z Z) (fun x=>Z) (fun x=>Z)
 refine aC ?_;exact trivial
noncomputable def wJ.l1 (a0:List Int) (a1:List Int) (s4:Int):Option (Lp Int (Ex Unit Bool)):=
 if s4<(a0.length:Int) then
 bnd (idx a0 s4) fun x14=>
 bnd (idx a1 s4) fun x15=>
 if x14=x15 then
 some (Lp.next (w64 (s4+1)))
else
 some (Lp.done (Ex.ret false))
else
 some (Lp.done (Ex.brk ()))
noncomputable def wJ (a0:List Int) (a1:List Int):Option Bool:=
 if (a0.length:Int)=(a1.length:Int) then
 bnd (loop (wJ.l1 a0 a1) 0:Option (Ex Unit Bool)) fun t2=>match t2 with
| .brk u3=>
 some true
| .ret u3=>some u3
else
 some false
theorem tN {a0:List Int} {a1:List Int} {res:Bool} (h0:wJ a0 a1=some res):zn X 58 [.sl 1 (List.map (eI .i64) a0),.sl 1 (List.map (eI .i64) a1)] [] (fun x=>(dT res)) (fun x=>[]):=by
 unfold wJ at h0;refine zg (X:=X) Z Tryz.func58 Z Z Tryz.ntmps58 Z Z ?_;refine aS ?_;refine aA Z Z ?_;refine aN Z ?_;refine T.seq ?_;refine aS ?_;refine aA Z Z ?_;refine z6 (zk (OpR.pure Z) (xh (xX _ _))) Z ?_;refine aA Z Z ?_;refine z6 (zk (OpR.pure Z) (xh (xX _ _))) Z ?_;refine aA Z Z ?_;refine aN Z ?_;rcases z9 h0 with ⟨c1,h0⟩|⟨c1,h0⟩;rotate_left
 ·refine zi Z (yd (beq_eq_false_iff_ne.2 c1)) ?_;refine aS ?_;refine aA Z Z ?_;refine aN Z ?_;refine T.ret ?_;obtain rfl:=osi h0;exact rO [] [4] Z undef (cT Z ResL.nil) Z Z Z Z
 refine zh Z (zS (beq_iff_eq.2 c1)) ?_;refine aK Z ?_;refine T.seq ?_;refine aS ?_;refine aA Z Z ?_;refine z6 (zk (OpR.pure Z) (xh (xX _ _))) Z ?_;refine aA Z Z ?_;refine aN Z ?_;obtain⟨t2,ht2,h0⟩:=bS h0;refine zz (fun S'=>∃ u3,t2=Ex.brk u3∧S'=⟨[(4,(dT false))],[],26⟩) (fun _ h=>h) ?_ ?_;rotate_left
 ·rintro _ ⟨u3,rfl,rfl⟩;show T X _ _ _;refine aS ?_;refine aA Z Z ?_;refine aN Z ?_;refine T.ret ?_;obtain rfl:=osi h0;exact rO [] [4] Z undef (cT Z ResL.nil) Z Z Z Z
 refine T.block ?_;obtain⟨n5,n10⟩:=zw ht2;refine T.loop (fun n S'=>∃ S'',Gst S' S''∧∃ s4:Int,S''=⟨[(13,(dN s4)),(12,(dN (a0.length:Int))),(4,(dT false)),(1,.sl 1 (List.map (eI .i64) a1)),(0,.sl 1 (List.map (eI .i64) a0))],[],26⟩∧wc (wJ.l1 a0 a1) n s4=some t2) n5 ?_ ?_
 ·exact⟨_,Gst.only [0,1,4,12,13] Z,0,Z,n10⟩
 rintro n5 _ ⟨_,g,s4,rfl,i9⟩;refine T.ghost g ?_;obtain⟨m6,q7,rfl,q8,i9⟩:=zx i9;unfold wJ.l1 at q8;refine aS ?_;refine aA Z Z ?_;refine aN Z ?_;refine T.seq ?_;rcases z9 q8 with ⟨c12,q8⟩|⟨c12,q8⟩;rotate_left
 ·refine zh Z (eF c12) ?_;refine T.exit ?_;obtain rfl:=osi q8;obtain rfl:_=_:=i9;exact⟨_,Gst.only [4] Z,_,Z,Z⟩
 refine zi Z (eT c12) ?_;refine aK Z ?_;refine T.seq ?_;refine T.block ?_;refine aS ?_;iterate 2 refine aA rfl rfl ?_
 refine aN Z ?_;refine T.seq ?_;obtain⟨x14,hx14,q8⟩:=bS q8;obtain⟨x15,hx15,q8⟩:=bS q8;refine yo zW [.sl 1 (List.map (eI .i64) a0),dN s4,.nod [dN x14],dN x14,.sl 1 (List.map (eI .i64) a1),dN s4,.nod [dN x15],dN x15,dT (!(x14==x15))] [0,1,4,12,13,24] (by decide +kernel) Z ?_ Z ?_
 ·iterate 2 refine aB rfl rfl rfl ?_
  refine zq.yes (Want.plain Z) Z (zp (eI .i64) hx14 Z Z Z Z Z) ?_;iterate 3 refine aB rfl rfl rfl ?_
  refine zq.yes (Want.plain Z) Z (zp (eI .i64) hx15 Z Z Z Z Z) ?_;iterate 2 refine aB rfl rfl rfl ?_
  exact zq.nil
 show T X _ _ _;rcases z9 q8 with ⟨c16,q8⟩|⟨c16,q8⟩
 ·refine zh Z (zS (beq_iff_eq.2 c16)) ?_;refine aK Z ?_;refine T.region ?_;iterate 2 refine aA rfl rfl ?_
  refine TL.nil ?_;obtain rfl:=osi q8;exact⟨m6,Nat.lt_succ_self _,_,Gst.only [0,1,4,12,13] Z,w64 (s4+1),Z,i9⟩
 refine zi Z (yd (beq_eq_false_iff_ne.2 c16)) ?_;refine aS ?_;refine aA Z Z ?_;refine aN Z ?_;refine T.ret ?_;obtain rfl:=osi q8;obtain rfl:_=_:=i9;obtain rfl:=osi h0;exact rO [] [4] Z undef (cT Z ResL.nil) Z Z Z Z
noncomputable def uE (a0:cell_Cell) (a1:List UInt8):Option ref07_Cell:=
 bnd (xo a0 a1) fun x3=>
 bnd (if a0.fKept=true then
 bnd (wl a0.fRaw a1) fun x6=>
 some x6
else
 some []:Option (List UInt8)) fun t4=>
 some (⟨x3,t4,a0.fKept⟩:ref07_Cell)
theorem law07_Plain_c {a0:cell_Cell} {a1:List UInt8} {b0:Nat} {v1:Value} {res:ref07_Cell} (h0:uE a0 a1=some res):zn X 144 [dP b0,.agg [.sl 2 (List.map zm a0.fText.fL),dN a0.fText.fN,dN a0.fRaw.fAt,dN a0.fRaw.fN,dT a0.fKept]] [.var b0 [.val v1] 264,.row v1 (lB a1) 1 5] (fun x=>.agg [.val (.string (bs res.fS)),.val (.string (bs res.fRaw)),dT res.fKept]) (fun x=>[.var b0 [.val v1] 264,.row v1 (lB a1) 1 5]):=by
 unfold uE at h0;refine zg (X:=X) Z Tryz.func144 Z Z Tryz.ntmps144 Z Z ?_;refine aS ?_;refine z6 (zD Z Z) Z ?_;refine TL.op (OpR.alloc Z Z (fun _=>Z)) Z (fun p1=>?_);refine aN Z ?_;refine T.seq ?_;obtain⟨x3,hx3,h0⟩:=bS h0;refine yx zW (fun env2=>[.agg [.sl 2 (List.map zm a0.fText.fL),dN a0.fText.fN,dN a0.fRaw.fAt,dN a0.fRaw.fN,dT a0.fKept],dP b0,.sl 1 (lB x3),.val (.string (bs x3)),.nod [dT a0.fKept],dT a0.fKept,.agg [.val (.string (bs x3)),.val (.string (bs [])),dT a0.fKept],dP (blk (env2 7)),.dead]) (fun D env2=>[.var b0 [.val v1] 264,.row v1 (lB a1) 1 5,.var (blk p1) [.val (.string (bs [])),.val (.string (bs [])),dT false] 151]++(bif D 7 then [(bif D 8 then .var (blk (env2 7)) [.val (.string (bs x3)),.val (.string (bs [])),dT a0.fKept] 151 else .var (blk (env2 7)) [.val (.string (bs [])),.val (.string (bs [])),dT false] 151)] else [])) [0,0,3,7,0,16,63,0,255] [0,3,4,5] _ (by decide +kernel) (by decide +kernel) (fun _=>Z) (fun _=>Z) ?_ (fun _=>Z) (fun _=>Z) ?_;rotate_left
 ·intro env2;show T X _ _ _;refine T.seq ?_;refine aS ?_;iterate 2 refine aA rfl rfl ?_
  refine aN Z ?_;obtain⟨t4,ht4,h0⟩:=bS h0;refine zz (fun S'=>S'=⟨[(5,(dP (blk (env2 7)))),(4,(dP (blk p1)))],[.var b0 [.val v1] 264,.row v1 (lB a1) 1 5,.var (blk p1) [.val (.string (bs [])),.val (.string (bs [])),dT false] 151,.var (blk (env2 7)) [.val (.string (bs x3)),.val (.string (bs t4)),dT a0.fKept] 151],22⟩) (fun _ h=>h) ?_ ?_;rotate_left
  ·rintro _ rfl;show T X _ _ _;refine aS ?_;refine z6 (z7 3 Z Z Z Z) Z ?_;refine zy (OpR.store 2 Z Z Z Z Z Z Z Z) ?_;refine aN Z ?_;refine T.ret ?_;obtain rfl:=osi h0;exact rP [0,1] [4] [0,1,2] Z Z Z undef (cV 2 Z Z Z Z ResL.nil) Z Z Z Z
  rcases z9 ht4 with ⟨c5,ht4⟩|⟨c5,ht4⟩;rotate_left
  ·refine zh Z (eN c5) ?_;refine T.skip ?_;obtain rfl:=osi ht4;exact⟨_,Gst.only [4,5] Z,Z⟩
  refine zi Z (c5) ?_;refine T.region ?_;iterate 3 refine aA rfl rfl ?_
  obtain⟨x6,hx6,ht4⟩:=bS ht4;refine z6 (OpR.call [0,1] fn201 (uH hx6) Z Z Z (fun _=>Z)) Z ?_;refine z6 (OpR.toStr (bs:=x6) Z Z Z Z Z Z Z) Z ?_;refine aA Z Z ?_;refine zy (OpR.store 3 Z Z Z Z Z Z Z Z) ?_;refine TL.nil ?_;obtain rfl:=osi ht4;exact⟨_,Gst.only [4,5] Z,Z⟩
 iterate 2 refine aC ?_
 refine zj true ?_ (fun _ _ _ _ _ _ _=>Z) ?_
 ·intro D env2 hA;have e8:D 8=false:=hA.no 8 _ rfl rfl;rcases Bool.eq_false_or_eq_true (D 7) with e7|e7
  ·exact zI [(8,false),(7,true)] ⟨e8,e7,trivial⟩ (Want.plain Z) (OpR.call [0,1] fn113 (ul hx3) Z Z Z (fun _=>Z)) (fun x=>Z) (fun x=>Z)
  exact zI [(8,false),(7,false)] ⟨e8,e7,trivial⟩ (Want.plain Z) (OpR.call [0,1] fn113 (ul hx3) Z Z Z (fun _=>Z)) (fun x=>Z) (fun x=>Z)
 refine oT (.val (.string (bs x3))) (fun _ _=>OpR.toStr (bs:=x3) Z Z Z Z Z Z Z) ?_;iterate 2 refine aC ?_
 refine oT (.agg [.val (.string (bs x3)),.val (.string (bs [])),dT a0.fKept]) (fun _ _=>OpR.build Z Z Z Z Z) ?_;refine zj true ?_ (fun D hA env2 x j hj hD=>match j,hj,hD with|0,_,_=>Z|1,_,_=>Z|2,_,_=>Z|3,_,_=>Z|4,_,_=>Z|5,_,_=>Z|6,_,_=>Z|7,hj,_=>absurd Z hj|8,_,_=>Z|_+9,_,_=>Z) ?_
 ·intro D env2 hA;have e8:D 8=false:=hA.no 8 _ rfl rfl;exact zI [(8,false),(7,false)] ⟨e8,hA.me,trivial⟩ (Want.plain Z) (OpR.alloc Z Z (fun _=>Z)) (fun x=>Z) (fun x=>Z)
 refine zj true ?_ (fun _ _ _ _ _ _ _=>Z) ?_
 ·intro D env2 hA;have e7:D 7=true:=hA.yes 7 _ rfl rfl;exact zI [(7,true),(8,false)] ⟨e7,hA.me,trivial⟩ (Want.plain Z) (OpR.store 3 Z Z Z Z Z Z Z Z) (fun x=>Z) (fun x=>Z)
 exact trivial
noncomputable def wj.l1 (a0:row_Row) (a1:List UInt8) (s6:Int × (List ref07_Cell)):Option (Lp (Int × (List ref07_Cell)) (List ref07_Cell)):=
 if s6.1<(a0.fCells.length:Int) then
 bnd (idx a0.fCells s6.1) fun x15=>
 bnd (uE x15 a1) fun x18=>
 bnd (app 40 s6.2 [x18]) fun x19=>
 some (Lp.next (w64 (s6.1+1),x19))
else
 some (Lp.done s6.2)
noncomputable def wj (a0:row_Row) (a1:List UInt8):Option ref08_Row:=
 bnd (loop (wj.l1 a0 a1) (0,[]):Option (List ref07_Cell)) fun t3=>
 some (⟨t3,a0.fEnd,a0.fHidden⟩:ref08_Row)
theorem law08_Plain_c {a0:row_Row} {a1:List UInt8} {b0:Nat} {v1:Value} {res:ref08_Row} (h0:wj a0 a1=some res):zn X 75 [dP b0,.agg [.sl 5 (List.map zo a0.fCells),dN a0.fEnd,dT a0.fHidden]] [.var b0 [.val v1] 264,.row v1 (lB a1) 1 5] (fun x=>.agg [.sl 3 (List.map zB res.fCells),dN res.fEnd,dT res.fHidden]) (fun x=>[.var b0 [.val v1] 264,.row v1 (lB a1) 1 5]):=by
 unfold wj at h0;refine zg (X:=X) Z Tryz.func75 Z Z Tryz.ntmps75 Z Z ?_;refine aS ?_;refine z6 (zD Z Z) Z ?_;refine TL.op (OpR.alloc Z Z (fun _=>Z)) Z (fun p1=>?_);refine aN Z ?_;refine aS ?_;iterate 4 refine aA rfl rfl ?_
 refine z6 (OpR.build Z Z Z Z Z) Z ?_;refine TL.op (OpR.alloc Z Z (fun _=>Z)) Z (fun p2=>?_);refine zy (OpR.store 3 Z Z Z Z Z Z Z Z) ?_;refine aN Z ?_;refine T.seq ?_;refine aS ?_;iterate 2 refine aA rfl rfl ?_
 refine z6 (zk (OpR.pure Z) (xh (xX _ _))) Z ?_;refine aA Z Z ?_;refine aN Z ?_;obtain⟨t3,ht3,h0⟩:=bS h0;refine zz (fun S'=>∃ y4:Value,S'=⟨[(5,(dP (blk p2))),(4,(dP (blk p1)))],[.var b0 [.val v1] 264,.row v1 (lB a1) 1 5,.var (blk p1) [.val (.slice none 0 0),dN 0,dT false] 60,.var (blk p2) [.val y4,dN a0.fEnd,dT a0.fHidden] 60,.row y4 (List.map zB t3) 3 151],30⟩) (fun _ h=>h) ?_ ?_;rotate_left
 ·rintro _ ⟨y4,rfl⟩;show T X _ _ _;refine aS ?_;refine z6 (z7 3 Z Z Z Z) Z ?_;refine zy (OpR.store 2 Z Z Z Z Z Z Z Z) ?_;refine aN Z ?_;refine T.ret ?_;obtain rfl:=osi h0;exact zC (ks:=[0,1]) (Gst.trans (Gst.only [4] Z) (Gst.trans (zA 4 Z Z (ReS.cons Re.refl ReS.nil) (ReO.same (ReO.same (ReO.var (ReL.cons (Re.base .all) (ReL.cons Re.refl (ReL.cons Re.refl ReL.nil))) (ReO.var (ReL.cons (Re.base .all) (ReL.cons Re.refl (ReL.cons Re.refl ReL.nil))) (ReO.same ReO.nil)))))) (Gst.pick [0,1,2] Z Z))) undef (cV 2 Z Z Z Z ResL.nil) Z Z Z Z
 refine T.block ?_;obtain⟨n7,n12⟩:=zw ht3;refine T.loop (fun n S'=>∃ S'',Gst S' S''∧∃ y5:Value,∃ s6:Int × (List ref07_Cell),S''=⟨[(16,(dN s6.1)),(15,(dN (a0.fCells.length:Int))),(14,.sl 5 (List.map zo a0.fCells)),(5,(dP (blk p2))),(4,(dP (blk p1))),(0,(dP b0))],[.var b0 [.val v1] 264,.row v1 (lB a1) 1 5,.var (blk p1) [.val (.slice none 0 0),dN 0,dT false] 60,.var (blk p2) [.val y5,dN a0.fEnd,dT a0.fHidden] 60,.row y5 (List.map zB s6.2) 3 151],30⟩∧wc (wj.l1 a0 a1) n s6=some t3) n7 ?_ ?_
 ·exact⟨_,Gst.trans (Gst.only [0,4,5,14,15,16] Z) (ya (ow:=[.var b0 [.val v1] 264,.row v1 (lB a1) 1 5,.var (blk p1) [.val (.slice none 0 0),dN 0,dT false] 60,.var (blk p2) [.val (.slice none 0 0),dN a0.fEnd,dT a0.fHidden] 60]) 3 151 Z),(.slice none 0 0),(0,[]),Z,n12⟩
 rintro n7 _ ⟨_,g,y5,s6,rfl,i11⟩;refine T.ghost g ?_;obtain⟨m8,q9,rfl,q10,i11⟩:=zx i11;unfold wj.l1 at q10;refine aS ?_;refine aA Z Z ?_;refine aN Z ?_;refine T.seq ?_;rcases z9 q10 with ⟨c14,q10⟩|⟨c14,q10⟩;rotate_left
 ·refine zh Z (eF c14) ?_;refine T.exit ?_;obtain rfl:=osi q10;obtain rfl:_=_:=i11;exact⟨_,Gst.only [4,5] Z,y5,Z⟩
 refine zi Z (eT c14) ?_;refine aK Z ?_;refine T.seq ?_;refine T.block ?_;refine aS ?_;obtain⟨x15,hx15,q10⟩:=bS q10;refine z6 (zp zo hx15 Z Z Z Z Z) Z ?_;refine aA Z Z ?_;refine TL.op (OpR.alloc Z Z (fun _=>Z)) Z (fun p16=>?_);refine zy (OpR.store 5 Z Z Z Z Z Z Z Z) ?_;refine aN Z ?_;obtain⟨x18,hx18,q10⟩:=bS q10;obtain⟨x19,hx19,q10⟩:=bS q10;refine yx zW (fun env17=>[dP (blk p2),.val y5,dP b0,.agg [.sl 2 (List.map zm x15.fText.fL),dN x15.fText.fN,dN x15.fRaw.fAt,dN x15.fRaw.fN,dT x15.fKept],.agg [.val (.string (bs x18.fS)),.val (.string (bs x18.fRaw)),dT x18.fKept],.sl 3 (List.map zB [x18]),.val (env17 6),dP (blk p2),.dead]) (fun D env17=>[.var b0 [.val v1] 264,.row v1 (lB a1) 1 5,.var (blk p1) [.val (.slice none 0 0),dN 0,dT false] 60,(bif D 8 then .var (blk p2) [.val (env17 6),dN a0.fEnd,dT a0.fHidden] 60 else .var (blk p2) [.val y5,dN a0.fEnd,dT a0.fHidden] 60),(bif D 6 then .row (env17 6) (List.map zB x19) 3 151 else .row y5 (List.map zB s6.2) 3 151),.var (blk p16) [.sl 2 (List.map zm x15.fText.fL),dN x15.fText.fN,dN x15.fRaw.fAt,dN x15.fRaw.fN,dT x15.fKept] 144]) [0,1,0,0,12,28,63,127,255] [0,4,5,14,15,16] _ (by decide +kernel) (by decide +kernel) (fun _=>Z) (fun _=>Z) ?_ (fun _=>Z) (fun _=>Z) ?_;rotate_left
 ·intro env17;show T X _ _ _;refine T.region ?_;iterate 2 refine aA rfl rfl ?_
  refine TL.nil ?_;obtain rfl:=osi q10;exact⟨m8,Nat.lt_succ_self _,_,gP [0,4,5,14,15,16] [0,1,2,3,4] Z Z Z,(env17 6),(w64 (s6.1+1),x19),Z,i11⟩
 refine aC ?_;refine zj true ?_ (fun _ _ _ _ _ _ _=>Z) ?_
 ·intro D env17 hA;have e6:D 6=false:=hA.no 6 _ rfl rfl;have e8:D 8=false:=hA.no 8 _ rfl rfl;exact zI [(6,false),(8,false)] ⟨e6,e8,trivial⟩ (Want.plain Z) (z7 3 Z Z Z Z) (fun x=>Z) (fun x=>Z)
 refine aC ?_;refine oT (.agg [.sl 2 (List.map zm x15.fText.fL),dN x15.fText.fN,dN x15.fRaw.fAt,dN x15.fRaw.fN,dT x15.fKept]) (fun _ _=>z7 5 Z Z Z Z) ?_;refine zj true ?_ (fun _ _ _ _ _ _ _=>Z) ?_
 ·intro D env17 hA;have e6:D 6=false:=hA.no 6 _ rfl rfl;have e8:D 8=false:=hA.no 8 _ rfl rfl;exact zI [(6,false),(8,false)] ⟨e6,e8,trivial⟩ (Want.plain Z) (OpR.call [0,1] fn144 (law07_Plain_c hx18) Z Z Z (fun _=>Z)) (fun x=>Z) (fun x=>Z)
 refine oT (.sl 3 (List.map zB [x18])) (fun _ _=>yC Z Z Z Z Z Z Z) ?_;refine zj true ?_ (fun D hA env17 x j hj hD=>match j,hj,hD with|0,_,_=>Z|1,_,_=>Z|2,_,_=>Z|3,_,_=>Z|4,_,_=>Z|5,_,_=>Z|6,hj,_=>absurd Z hj|7,_,_=>Z|8,_,_=>Z|_+9,_,_=>Z) ?_
 ·intro D env17 hA;have e8:D 8=false:=hA.no 8 _ rfl rfl;exact zI [(8,false),(6,false)] ⟨e8,hA.me,trivial⟩ (Want.plain Z) (zH (m:=[x18]) zB 4 hx19 Z Z Z Z Z Z Z Z Z (fun _=>Z)) (fun x=>Z) (fun x=>Z)
 refine aC ?_;refine zj true ?_ (fun _ _ _ _ _ _ _=>Z) ?_
 ·intro D env17 hA;have e6:D 6=true:=hA.yes 6 _ rfl rfl;exact zI [(6,true),(8,false)] ⟨e6,hA.me,trivial⟩ (Want.plain Z) (OpR.store 3 Z Z Z Z Z Z Z Z) (fun x=>Z) (fun x=>Z)
 exact trivial
noncomputable def wi.l1 (a0:grid_Grid) (a1:List UInt8) (s6:Int × (List ref08_Row)):Option (Lp (Int × (List ref08_Row)) (List ref08_Row)):=
 bnd (bnd (xg a0) fun x15=>
 if s6.1<x15 then
 some (decide (s6.1<1000))
else
 some false:Option Bool) fun t14=>
 if t14=true then
 bnd (vh a0 s6.1) fun x18=>
 bnd (wj x18.1 a1) fun x21=>
 bnd (app 40 s6.2 [x21]) fun x22=>
 some (Lp.next (w64 (s6.1+1),x22))
else
 some (Lp.done s6.2)
noncomputable def wi (a0:grid_Grid) (a1:List UInt8):Option ref11_Grid:=
 bnd (loop (wi.l1 a0 a1) (0,[]):Option (List ref08_Row)) fun t3=>
 some (⟨t3,a0.fTail,a0.fEnd⟩:ref11_Grid)
theorem rG {a0:grid_Grid} {a1:List UInt8} {b0:Nat} {v1:Value} {res:ref11_Grid} (h0:wi a0 a1=some res):zn X 19 [dP b0,.agg [(eOP a0.fRows.fRoot),dT a0.fTail,dN a0.fEnd]] [.var b0 [.val v1] 264,.row v1 (lB a1) 1 5] (fun x=>.agg [.sl 3 (List.map zb res.fRows),dT res.fTail,dN res.fEnd]) (fun x=>[.var b0 [.val v1] 264,.row v1 (lB a1) 1 5]):=by
 unfold wi at h0;refine zg (X:=X) Z Tryz.func19 Z Z Tryz.ntmps19 Z Z ?_;refine aS ?_;refine z6 (zD Z Z) Z ?_;refine TL.op (OpR.alloc Z Z (fun _=>Z)) Z (fun p1=>?_);refine aN Z ?_;refine aS ?_;iterate 4 refine aA rfl rfl ?_
 refine z6 (OpR.build Z Z Z Z Z) Z ?_;refine TL.op (OpR.alloc Z Z (fun _=>Z)) Z (fun p2=>?_);refine zy (OpR.store 3 Z Z Z Z Z Z Z Z) ?_;refine aN Z ?_;refine T.seq ?_;refine aS ?_;refine aA Z Z ?_;refine aN Z ?_;obtain⟨t3,ht3,h0⟩:=bS h0;refine zz (fun S'=>∃ y4:Value,S'=⟨[(5,(dP (blk p2))),(4,(dP (blk p1)))],[.var b0 [.val v1] 264,.row v1 (lB a1) 1 5,.var (blk p1) [.val (.slice none 0 0),dT false,dN 0] 31,.var (blk p2) [.val y4,dT a0.fTail,dN a0.fEnd] 31,.row y4 (List.map zb t3) 3 60],39⟩) (fun _ h=>h) ?_ ?_;rotate_left
 ·rintro _ ⟨y4,rfl⟩;show T X _ _ _;refine aS ?_;refine z6 (z7 3 Z Z Z Z) Z ?_;refine zy (OpR.store 2 Z Z Z Z Z Z Z Z) ?_;refine aN Z ?_;refine T.ret ?_;obtain rfl:=osi h0;exact zC (ks:=[0,1]) (Gst.trans (Gst.only [4] Z) (Gst.trans (zA 4 Z Z (ReS.cons Re.refl ReS.nil) (ReO.same (ReO.same (ReO.var (ReL.cons (Re.base .all) (ReL.cons Re.refl (ReL.cons Re.refl ReL.nil))) (ReO.var (ReL.cons (Re.base .all) (ReL.cons Re.refl (ReL.cons Re.refl ReL.nil))) (ReO.same ReO.nil)))))) (Gst.pick [0,1,2] Z Z))) undef (cV 2 Z Z Z Z ResL.nil) Z Z Z Z
 refine T.block ?_;obtain⟨n7,n12⟩:=zw ht3;refine T.loop (fun n S'=>∃ S'',Gst S' S''∧∃ y5:Value,∃ s6:Int × (List ref08_Row),S''=⟨[(6,(dN s6.1)),(5,(dP (blk p2))),(4,(dP (blk p1))),(3,.nod [(eOP a0.fRows.fRoot),dT a0.fTail,dN a0.fEnd]),(0,(dP b0))],[.var b0 [.val v1] 264,.row v1 (lB a1) 1 5,.var (blk p1) [.val (.slice none 0 0),dT false,dN 0] 31,.var (blk p2) [.val y5,dT a0.fTail,dN a0.fEnd] 31,.row y5 (List.map zb s6.2) 3 60],39⟩∧wc (wi.l1 a0 a1) n s6=some t3) n7 ?_ ?_
 ·exact⟨_,Gst.trans (Gst.only [0,3,4,5,6] Z) (ya (ow:=[.var b0 [.val v1] 264,.row v1 (lB a1) 1 5,.var (blk p1) [.val (.slice none 0 0),dT false,dN 0] 31,.var (blk p2) [.val (.slice none 0 0),dT a0.fTail,dN a0.fEnd] 31]) 3 60 Z),(.slice none 0 0),(0,[]),Z,n12⟩
 rintro n7 _ ⟨_,g,y5,s6,rfl,i11⟩;refine T.ghost g ?_;obtain⟨m8,q9,rfl,q10,i11⟩:=zx i11;unfold wi.l1 at q10;refine T.seq ?_;refine T.seq ?_;obtain⟨t14,ht14,q10⟩:=bS q10;refine zz (fun S'=>S'=⟨[(21,(dT t14)),(6,(dN s6.1)),(5,(dP (blk p2))),(4,(dP (blk p1))),(3,.nod [(eOP a0.fRows.fRoot),dT a0.fTail,dN a0.fEnd]),(0,(dP b0))],[.var b0 [.val v1] 264,.row v1 (lB a1) 1 5,.var (blk p1) [.val (.slice none 0 0),dT false,dN 0] 31,.var (blk p2) [.val y5,dT a0.fTail,dN a0.fEnd] 31,.row y5 (List.map zb s6.2) 3 60],39⟩) (fun _ h=>h) ?_ ?_
 ·refine T.region ?_;iterate 2 refine aA rfl rfl ?_
  obtain⟨x15,hx15,ht14⟩:=bS ht14;refine z6 (zf fn22 (wV hx15) Z) Z ?_;iterate 2 refine aA rfl rfl ?_
  rcases z9 ht14 with ⟨c16,ht14⟩|⟨c16,ht14⟩;rotate_left
  ·refine TL.off Z Z Z Z (eF c16) Z Z ?_;refine TL.off Z Z Z Z (eF c16) Z Z ?_;refine z6 (zu Z (eF c16) Z) Z ?_;refine TL.nil ?_;obtain rfl:=osi ht14;exact⟨_,Gst.only [0,3,4,5,6,21] Z,Z⟩
  refine TL.on Z Z Z Z (eT c16) ?_;refine aA Z Z ?_;refine TL.on Z Z Z Z (eT c16) ?_;refine aA Z Z ?_;refine z6 (zt Z (eT c16) Z) Z ?_;refine TL.nil ?_;obtain rfl:=osi ht14;exact⟨_,Gst.only [0,3,4,5,6,21] Z,Z⟩
 rintro _ rfl;show T X _ _ _;rcases z9 q10 with ⟨c17,q10⟩|⟨c17,q10⟩;rotate_left
 ·refine zh Z (eN c17) ?_;refine T.exit ?_;obtain rfl:=osi q10;obtain rfl:_=_:=i11;exact⟨_,Gst.only [4,5] Z,y5,Z⟩
 refine zi Z (c17) ?_;refine aK Z ?_;refine T.seq ?_;refine T.block ?_;refine aS ?_;iterate 2 refine aA rfl rfl ?_
 obtain⟨x18,hx18,q10⟩:=bS q10;refine z6 (zf fn24 (te hx18) Z) Z ?_;iterate 3 refine aA rfl rfl ?_
 refine TL.op (OpR.alloc Z Z (fun _=>Z)) Z (fun p19=>?_);refine zy (OpR.store 5 Z Z Z Z Z Z Z Z) ?_;refine aA Z Z ?_;refine aN Z ?_;obtain⟨x21,hx21,q10⟩:=bS q10;obtain⟨x22,hx22,q10⟩:=bS q10;refine yx zW (fun env20=>[dP (blk p2),.val y5,dP b0,.agg [.sl 5 (List.map zo x18.1.fCells),dN x18.1.fEnd,dT x18.1.fHidden],.agg [.sl 3 (List.map zB x21.fCells),dN x21.fEnd,dT x21.fHidden],.sl 3 (List.map zb [x21]),.val (env20 6),dP (blk p2),.dead]) (fun D env20=>[.var b0 [.val v1] 264,.row v1 (lB a1) 1 5,.var (blk p1) [.val (.slice none 0 0),dT false,dN 0] 31,(bif D 8 then .var (blk p2) [.val (env20 6),dT a0.fTail,dN a0.fEnd] 31 else .var (blk p2) [.val y5,dT a0.fTail,dN a0.fEnd] 31),(bif D 6 then .row (env20 6) (List.map zb x22) 3 60 else .row y5 (List.map zb s6.2) 3 60),.var (blk p19) [.sl 5 (List.map zo x18.1.fCells),dN x18.1.fEnd,dT x18.1.fHidden] 49]) [0,1,0,0,12,28,63,127,255] [0,3,4,5,6] _ (by decide +kernel) (by decide +kernel) (fun _=>Z) (fun _=>Z) ?_ (fun _=>Z) (fun _=>Z) ?_;rotate_left
 ·intro env20;show T X _ _ _;refine T.region ?_;iterate 3 refine aA rfl rfl ?_
  refine TL.nil ?_;obtain rfl:=osi q10;exact⟨m8,Nat.lt_succ_self _,_,gP [0,3,4,5,6] [0,1,2,3,4] Z Z Z,(env20 6),(w64 (s6.1+1),x22),Z,i11⟩
 refine aC ?_;refine zj true ?_ (fun _ _ _ _ _ _ _=>Z) ?_
 ·intro D env20 hA;have e6:D 6=false:=hA.no 6 _ rfl rfl;have e8:D 8=false:=hA.no 8 _ rfl rfl;exact zI [(6,false),(8,false)] ⟨e6,e8,trivial⟩ (Want.plain Z) (z7 3 Z Z Z Z) (fun x=>Z) (fun x=>Z)
 refine aC ?_;refine oT (.agg [.sl 5 (List.map zo x18.1.fCells),dN x18.1.fEnd,dT x18.1.fHidden]) (fun _ _=>z7 5 Z Z Z Z) ?_;refine zj true ?_ (fun _ _ _ _ _ _ _=>Z) ?_
 ·intro D env20 hA;have e6:D 6=false:=hA.no 6 _ rfl rfl;have e8:D 8=false:=hA.no 8 _ rfl rfl;exact zI [(6,false),(8,false)] ⟨e6,e8,trivial⟩ (Want.plain Z) (OpR.call [0,1] fn75 (law08_Plain_c hx21) Z Z Z (fun _=>Z)) (fun x=>Z) (fun x=>Z)
 refine oT (.sl 3 (List.map zb [x21])) (fun _ _=>yC Z Z Z Z Z Z Z) ?_;refine zj true ?_ (fun D hA env20 x j hj hD=>match j,hj,hD with|0,_,_=>Z|1,_,_=>Z|2,_,_=>Z|3,_,_=>Z|4,_,_=>Z|5,_,_=>Z|6,hj,_=>absurd Z hj|7,_,_=>Z|8,_,_=>Z|_+9,_,_=>Z) ?_
 ·intro D env20 hA;have e8:D 8=false:=hA.no 8 _ rfl rfl;exact zI [(8,false),(6,false)] ⟨e8,hA.me,trivial⟩ (Want.plain Z) (zH (m:=[x21]) zb 4 hx22 Z Z Z Z Z Z Z Z Z (fun _=>Z)) (fun x=>Z) (fun x=>Z)
 refine aC ?_;refine zj true ?_ (fun _ _ _ _ _ _ _=>Z) ?_
 ·intro D env20 hA;have e6:D 6=true:=hA.yes 6 _ rfl rfl;exact zI [(6,true),(8,false)] ⟨e6,hA.me,trivial⟩ (Want.plain Z) (OpR.store 3 Z Z Z Z Z Z Z Z) (fun x=>Z) (fun x=>Z)
 exact trivial
end Go.Proofs.YtpmhiiemklhbhaaGreat.S
