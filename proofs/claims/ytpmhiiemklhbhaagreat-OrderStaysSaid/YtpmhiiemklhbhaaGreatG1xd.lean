import Derived.Test.YtpmhiiemklhbhaaGreatG1xc
import Derived.Test.YtpmhiiemklhbhaaGreatG1xb
import Derived.Test.YtpmhiiemklhbhaaGreatG1xa
set_option maxHeartbeats 4000000
set_option linter.unusedVariables false
set_option linter.unusedSimpArgs false
set_option maxRecDepth 20000
namespace Go.Proofs.YtpmhiiemklhbhaaGreat.S
open Go Go.Sm
attribute [local irreducible] T TL OpR CallT wo loop
noncomputable def yP.l1 (a0:List (List Int)) (a2:List row_Row) (a3:List order_By) (a4:List UInt8) (s5:Int × (List merge_run_int)):Option (Lp (Int × (List merge_run_int)) (List merge_run_int)):=
 if s5.1<(a0.length:Int) then
 bnd (idx a0 s5.1) fun x14=>
 bnd (if (x14.length:Int)>0 then
 bnd (vo (⟨x14,s5.1⟩:merge_run_int) s5.2 a2 a3 a4) fun x18=>
 some x18
else
 some s5.2:Option (List merge_run_int)) fun t15=>
 some (Lp.next (w64 (s5.1+1),t15))
else
 some (Lp.done s5.2)
noncomputable def yP.l2 (a1:Int) (a2:List row_Row) (a3:List order_By) (a4:List UInt8) (s24:(List Int) × (List merge_run_int)):Option (Lp ((List Int) × (List merge_run_int)) (List Int)):=
 bnd (bnd (wC s24.2 a2 a3 a4) fun x33=>
 if x33>0 then
 some (decide ((s24.1.length:Int)<a1))
else
 some false:Option Bool) fun t32=>
 if t32=true then
 bnd (idx s24.2 0) fun x36=>
 bnd (idx x36.fRest 0) fun x37=>
 bnd (app 8 s24.1 [x37]) fun x38=>
 bnd (cut x36.fRest 1 (x36.fRest.length:Int)) fun x40=>
 bnd (idx (s24.2.set (0:Int).toNat (⟨x40,x36.fWhich⟩:merge_run_int)) 0) fun x41=>
 if (x41.fRest.length:Int)=0 then
 bnd (vV (s24.2.set (0:Int).toNat (⟨x40,x36.fWhich⟩:merge_run_int)) a2 a3 a4) fun x43=>
 some (Lp.next (x38,x43.2))
else
 bnd (vW 0 (s24.2.set (0:Int).toNat (⟨x40,x36.fWhich⟩:merge_run_int)) a2 a3 a4) fun x45=>
 some (Lp.next (x38,x45))
else
 some (Lp.done s24.1)
noncomputable def yP (a0:List (List Int)) (a1:Int) (a2:List row_Row) (a3:List order_By) (a4:List UInt8):Option (List Int):=
 bnd (loop (yP.l1 a0 a2 a3 a4) (0,[]):Option (List merge_run_int)) fun t2=>
 bnd (loop (yP.l2 a1 a2 a3 a4) ([],t2):Option (List Int)) fun t20=>
 some t20
theorem merge_first_int_c {a0:List (List Int)} {a1:Int} {a2:List row_Row} {a3:List order_By} {a4:List UInt8} {b0:Nat} {b1:Nat} {b2:Nat} {b3:Nat} {b4:Nat} {v5:Value} {res:(List Int)} (h0:yP a0 a1 a2 a3 a4=some res):zo X 249 [.fn (.func 190) [] [dP b0,dP b1],.sl 1 (List.map sL a0),dN a1] [.var b0 [.fn (.func 170) [] [dP b2,dP b3]] 170,.var b1 [.sl 3 (List.map z8 a2)] 163,.var b2 [.sl 2 (List.map zg a3)] 104,.var b3 [dP b4] 28,.var b4 [.val v5] 264,.row v5 (lB a4) 1 5] (fun x=>.val (vn x 0)) (fun x=>[.var b0 [.fn (.func 170) [] [dP b2,dP b3]] 170,.var b1 [.sl 3 (List.map z8 a2)] 163,.var b2 [.sl 2 (List.map zg a3)] 104,.var b3 [dP b4] 28,.var b4 [.val v5] 264,.row v5 (lB a4) 1 5,.row (vn x 0) (List.map (eI .i64) res) 1 3]):=by
 unfold yP at h0;refine zb (X:=X) Z Tryz.func249 Z Z Tryz.ntmps249 Z Z ?_;refine aS ?_;refine aA Z Z ?_;refine aN Z ?_;refine aS ?_;refine aA Z Z ?_;refine z6 (OpR.build Z Z Z Z Z) Z ?_;refine TL.op (xG Z Z (fun _=>Z)) Z (fun p1=>?_);refine aA Z Z ?_;refine aN Z ?_;refine T.seq ?_;refine aS ?_;refine aA Z Z ?_;refine z6 (zk (OpR.pure Z) (xn (w9 _ _))) Z ?_;refine aA Z Z ?_;refine aN Z ?_;obtain⟨t2,ht2,h0⟩:=bS h0;refine zA (fun S'=>∃ y3:Value,S'=⟨[(7,(dP (blk p1))),(6,.val (.slice none 0 0)),(2,(dN a1))],[.var b0 [.fn (.func 170) [] [dP b2,dP b3]] 170,.var b1 [.sl 3 (List.map z8 a2)] 163,.var b2 [.sl 2 (List.map zg a3)] 104,.var b3 [dP b4] 28,.var b4 [.val v5] 264,.row v5 (lB a4) 1 5,.var (blk p1) [.val y3,.fn (.func 190) [] [dP b0,dP b1]] 355,.row y3 (List.map zn t2) 2 357],77⟩) (fun _ h=>h) ?_ ?_
 ·refine T.block ?_;obtain⟨n6,n11⟩:=zy ht2;refine T.loop (fun n S'=>∃ S'',Gst S' S''∧∃ y4:Value,∃ s5:Int × (List merge_run_int),S''=⟨[(17,(dN s5.1)),(16,(dN (a0.length:Int))),(15,.sl 1 (List.map sL a0)),(7,(dP (blk p1))),(6,.val (.slice none 0 0)),(2,(dN a1))],[.var b0 [.fn (.func 170) [] [dP b2,dP b3]] 170,.var b1 [.sl 3 (List.map z8 a2)] 163,.var b2 [.sl 2 (List.map zg a3)] 104,.var b3 [dP b4] 28,.var b4 [.val v5] 264,.row v5 (lB a4) 1 5,.var (blk p1) [.val y4,.fn (.func 190) [] [dP b0,dP b1]] 355,.row y4 (List.map zn s5.2) 2 357],77⟩∧wo (yP.l1 a0 a2 a3 a4) n s5=some t2) n6 ?_ ?_
  ·exact⟨_,Gst.trans (Gst.only [2,6,7,15,16,17] Z) (ye (ow:=[.var b0 [.fn (.func 170) [] [dP b2,dP b3]] 170,.var b1 [.sl 3 (List.map z8 a2)] 163,.var b2 [.sl 2 (List.map zg a3)] 104,.var b3 [dP b4] 28,.var b4 [.val v5] 264,.row v5 (lB a4) 1 5,.var (blk p1) [.val (.slice none 0 0),.fn (.func 190) [] [dP b0,dP b1]] 355]) 2 357 Z),(.slice none 0 0),(0,[]),Z,n11⟩
  rintro n6 _ ⟨_,g,y4,s5,rfl,i10⟩;refine T.ghost g ?_;obtain⟨m7,q8,rfl,q9,i10⟩:=zz i10;unfold yP.l1 at q9;refine aS ?_;refine aA Z Z ?_;refine aN Z ?_;refine T.seq ?_;rcases z9 q9 with ⟨c13,q9⟩|⟨c13,q9⟩;rotate_left
  ·refine ze Z (eF c13) ?_;refine T.exit ?_;obtain rfl:=osi q9;obtain rfl:_=_:=i10;exact⟨_,Gst.only [2,6,7] Z,y4,Z⟩
  refine zf Z (eT c13) ?_;refine aK Z ?_;refine T.seq ?_;refine T.block ?_;refine aS ?_;refine aA Z Z ?_;obtain⟨x14,hx14,q9⟩:=bS q9;refine z6 (zp sL hx14 Z Z Z Z Z) Z ?_;iterate 3 refine aA rfl rfl ?_
  refine aN Z ?_;refine aS ?_;refine aA Z Z ?_;refine z6 (zk (OpR.pure Z) (xn (w9 _ _))) Z ?_;refine aA Z Z ?_;refine aN Z ?_;obtain⟨t15,ht15,q9⟩:=bS q9;refine zA (fun S'=>∃ y16:Value,S'=⟨[(17,(dN s5.1)),(16,(dN (a0.length:Int))),(15,.sl 1 (List.map sL a0)),(7,(dP (blk p1))),(6,.val (.slice none 0 0)),(2,(dN a1))],[.var b0 [.fn (.func 170) [] [dP b2,dP b3]] 170,.var b1 [.sl 3 (List.map z8 a2)] 163,.var b2 [.sl 2 (List.map zg a3)] 104,.var b3 [dP b4] 28,.var b4 [.val v5] 264,.row v5 (lB a4) 1 5,.var (blk p1) [.val y16,.fn (.func 190) [] [dP b0,dP b1]] 355,.row y16 (List.map zn t15) 2 357],77⟩) (fun _ h=>h) ?_ ?_;rotate_left
  ·rintro _ ⟨y16,rfl⟩;show T X _ _ _;refine T.region ?_;iterate 2 refine aA rfl rfl ?_
   refine TL.nil ?_;obtain rfl:=osi q9;exact⟨m7,Nat.lt_succ_self _,_,Gst.only [2,6,7,15,16,17] Z,y16,(w64 (s5.1+1),t15),Z,i10⟩
  rcases z9 ht15 with ⟨c17,ht15⟩|⟨c17,ht15⟩;rotate_left
  ·refine ze Z (eF c17) ?_;refine T.skip ?_;obtain rfl:=osi ht15;exact⟨_,Gst.only [2,6,7,15,16,17] Z,y4,Z⟩
  refine zf Z (eT c17) ?_;refine T.region ?_;refine aA Z Z ?_;refine z6 (ux Z Z Z) Z ?_;iterate 2 refine aA rfl rfl ?_
  refine z6 (OpR.build Z Z Z Z Z) Z ?_;refine z6 (ux Z Z Z) Z ?_;obtain⟨x18,hx18,ht15⟩:=bS ht15;refine TL.op (OpR.call [6,7,0,1,2,3,4,5] fn241 (rL hx18) Z Z Z (fun _=>Z)) Z (fun w19=>?_);refine TL.nil ?_;obtain rfl:=osi ht15;exact⟨_,Gst.only [2,6,7,15,16,17] Z,(vn w19 0),Z⟩
 rintro _ ⟨y3,rfl⟩;show T X _ _ _;refine aS ?_;refine aA Z Z ?_;refine aN Z ?_;refine T.seq ?_;obtain⟨t20,ht20,h0⟩:=bS h0;refine zA (fun S'=>∃ y21:Value,S'=⟨[(10,.val y21),(6,.val (.slice none 0 0))],[.var b0 [.fn (.func 170) [] [dP b2,dP b3]] 170,.var b1 [.sl 3 (List.map z8 a2)] 163,.var b2 [.sl 2 (List.map zg a3)] 104,.var b3 [dP b4] 28,.var b4 [.val v5] 264,.row v5 (lB a4) 1 5,.row y21 (List.map (eI .i64) t20) 1 3],77⟩) (fun _ h=>h) ?_ ?_;rotate_left
 ·rintro _ ⟨y21,rfl⟩;show T X _ _ _;refine aS ?_;iterate 2 refine aA rfl rfl ?_
  refine aN Z ?_;refine T.ret ?_;obtain rfl:=osi h0;exact rO [0,1,2,3,4,5,6] [6] Z (.tuple #[y21]) (cT Z ResL.nil) Z Z Z Z
 refine T.block ?_;obtain⟨n25,n30⟩:=zy ht20;refine T.loop (fun n S'=>∃ S'',Gst S' S''∧∃ y22:Value,∃ y23:Value,∃ s24:(List Int) × (List merge_run_int),S''=⟨[(10,.val y22),(7,(dP (blk p1))),(6,.val (.slice none 0 0)),(2,(dN a1))],[.var b0 [.fn (.func 170) [] [dP b2,dP b3]] 170,.var b1 [.sl 3 (List.map z8 a2)] 163,.var b2 [.sl 2 (List.map zg a3)] 104,.var b3 [dP b4] 28,.var b4 [.val v5] 264,.row v5 (lB a4) 1 5,.var (blk p1) [.val y23,.fn (.func 190) [] [dP b0,dP b1]] 355,.row y22 (List.map (eI .i64) s24.1) 1 3,.row y23 (List.map zn s24.2) 2 357],77⟩∧wo (yP.l2 a1 a2 a3 a4) n s24=some t20) n25 ?_ ?_
 ·exact⟨_,Gst.trans (Gst.only [2,6,7,10] Z) (Gst.trans (ye (ow:=[.var b0 [.fn (.func 170) [] [dP b2,dP b3]] 170,.var b1 [.sl 3 (List.map z8 a2)] 163,.var b2 [.sl 2 (List.map zg a3)] 104,.var b3 [dP b4] 28,.var b4 [.val v5] 264,.row v5 (lB a4) 1 5,.var (blk p1) [.val y3,.fn (.func 190) [] [dP b0,dP b1]] 355,.row y3 (List.map zn t2) 2 357]) 1 3 Z) (Gst.pick [0,1,2,3,4,5,6,8,7] Z Z)),(.slice none 0 0),y3,([],t2),Z,n30⟩
 rintro n25 _ ⟨_,g,y22,y23,s24,rfl,i29⟩;refine T.ghost g ?_;obtain⟨m26,q27,rfl,q28,i29⟩:=zz i29;unfold yP.l2 at q28;refine T.seq ?_;refine T.seq ?_;obtain⟨t32,ht32,q28⟩:=bS q28;refine zA (fun S'=>S'=⟨[(41,(dT t32)),(10,.val y22),(7,(dP (blk p1))),(6,.val (.slice none 0 0)),(2,(dN a1))],[.var b0 [.fn (.func 170) [] [dP b2,dP b3]] 170,.var b1 [.sl 3 (List.map z8 a2)] 163,.var b2 [.sl 2 (List.map zg a3)] 104,.var b3 [dP b4] 28,.var b4 [.val v5] 264,.row v5 (lB a4) 1 5,.var (blk p1) [.val y23,.fn (.func 190) [] [dP b0,dP b1]] 355,.row y22 (List.map (eI .i64) s24.1) 1 3,.row y23 (List.map zn s24.2) 2 357],77⟩) (fun _ h=>h) ?_ ?_
 ·refine T.region ?_;refine aA Z Z ?_;obtain⟨x33,hx33,ht32⟩:=bS ht32;refine z6 (OpR.call [6,8,0,1,2,3,4,5] fn268 (vy hx33) Z Z Z (fun _=>Z)) Z ?_;iterate 2 refine aA rfl rfl ?_
  rcases z9 ht32 with ⟨c34,ht32⟩|⟨c34,ht32⟩;rotate_left
  ·refine TL.off Z Z Z Z (eF c34) Z Z ?_;refine TL.off Z Z Z Z (eF c34) Z Z ?_;refine TL.off Z Z Z Z (eF c34) Z Z ?_;refine TL.off Z Z Z Z (eF c34) Z Z ?_;refine z6 (zx Z (eF c34) Z) Z ?_;refine TL.nil ?_;obtain rfl:=osi ht32;exact⟨_,Gst.only [2,6,7,10,41] Z,Z⟩
  refine TL.on Z Z Z Z (eT c34) ?_;refine aA Z Z ?_;refine TL.on Z Z Z Z (eT c34) ?_;refine z6 (yH (eI .i64) 7 Z Z Z Z) Z ?_;refine TL.on Z Z Z Z (eT c34) ?_;refine aA Z Z ?_;refine TL.on Z Z Z Z (eT c34) ?_;refine aA Z Z ?_;refine z6 (zt Z (eT c34) Z) Z ?_;refine TL.nil ?_;obtain rfl:=osi ht32;exact⟨_,Gst.only [2,6,7,10,41] Z,Z⟩
 rintro _ rfl;show T X _ _ _;rcases z9 q28 with ⟨c35,q28⟩|⟨c35,q28⟩;rotate_left
 ·refine ze Z (eN c35) ?_;refine T.exit ?_;obtain rfl:=osi q28;obtain rfl:_=_:=i29;exact⟨_,gP [6,10] [0,1,2,3,4,5,7] Z Z Z,y22,Z⟩
 refine zf Z (c35) ?_;refine aK Z ?_;refine T.block ?_;refine aS ?_;iterate 3 refine aA rfl rfl ?_
 refine z6 (z7 6 Z Z Z Z) Z ?_;obtain⟨x36,hx36,q28⟩:=bS q28;refine z6 (zO zn 8 hx36 Z Z Z Z Z Z Z) Z ?_;refine aA Z Z ?_;refine aN Z ?_;refine aS ?_;iterate 4 refine aA rfl rfl ?_
 refine z6 (zH (j:=0) zn 8 hx36 Z Z Z Z) Z ?_;obtain⟨x37,hx37,q28⟩:=bS q28;refine z6 (zp (eI .i64) hx37 Z Z Z Z Z) Z ?_;refine aA Z Z ?_;refine z6 (yN Z Z Z Z Z Z Z) Z ?_;obtain⟨x38,hx38,q28⟩:=bS q28;refine TL.op (zM (m:=[x37]) (eI .i64) 7 hx38 Z Z Z Z Z Z Z Z Z (fun _=>Z)) Z (fun v39=>?_);refine aA Z Z ?_;refine aN Z ?_;refine T.seq ?_;refine aS ?_;iterate 4 refine aA rfl rfl ?_
 refine z6 (zH (j:=0) zn 8 hx36 Z Z Z Z) Z ?_;obtain⟨x40,hx40,q28⟩:=bS q28;refine z6 (wR (sz:=1) (eI .i64) hx40 Z Z Z Z (BdM.some Z) BdM.none Z) Z ?_;iterate 2 refine aA rfl rfl ?_
 refine zv (yD (j:=0) zn (⟨x40,x36.fWhich⟩:merge_run_int) 8 hx36 Z Z Z Z Z Z Z Z Z) ?_;refine aN Z ?_;refine aS ?_;iterate 3 refine aA rfl rfl ?_
 obtain⟨x41,hx41,q28⟩:=bS q28;refine z6 (zH (j:=0) zn 8 hx41 Z Z Z Z) Z ?_;refine z6 (zk (OpR.pure Z) (xn (w9 _ _))) Z ?_;refine aA Z Z ?_;refine aN Z ?_;rcases z9 q28 with ⟨c42,q28⟩|⟨c42,q28⟩;rotate_left
 ·refine ze Z (beq_eq_false_iff_ne.2 c42) ?_;refine aK Z ?_;refine T.region ?_;refine aA Z Z ?_;refine z6 (ux Z Z Z) Z ?_;obtain⟨x45,hx45,q28⟩:=bS q28;refine z6 (OpR.call [6,8,0,1,2,3,4,5] fn244 (qV hx45) Z Z Z (fun _=>Z)) Z ?_;refine TL.nil ?_;obtain rfl:=osi q28;exact⟨m26,Nat.lt_succ_self _,_,Gst.only [2,6,7,10] Z,v39,y23,(x38,x45),Z,i29⟩
 refine zf Z (beq_iff_eq.2 c42) ?_;refine aS ?_;refine aA Z Z ?_;refine z6 (ux Z Z Z) Z ?_;obtain⟨x43,hx43,q28⟩:=bS q28;refine TL.op (OpR.call [6,8,0,1,2,3,4,5] fn243 (qU hx43) Z Z Z (fun _=>Z)) Z (fun w44=>?_);refine aN Z ?_;refine T.exit ?_;obtain rfl:=osi q28;exact⟨m26,Nat.lt_succ_self _,_,Gst.only [2,6,7,10] Z,v39,(vn w44 0),(x38,x43.2),Z,i29⟩
noncomputable def ta (a0:List (List Int)) (a1:List row_Row) (a2:List order_By) (a3:List UInt8):Option (List Int):=
 bnd (xT a0) fun x1=>
 bnd (yP a0 x1 a1 a2 a3) fun x2=>
 some x2
theorem merge_Merge_int_c {a0:List (List Int)} {a1:List row_Row} {a2:List order_By} {a3:List UInt8} {b0:Nat} {b1:Nat} {b2:Nat} {b3:Nat} {b4:Nat} {v5:Value} {res:(List Int)} (h0:ta a0 a1 a2 a3=some res):zo X 223 [.fn (.func 190) [] [dP b0,dP b1],.sl 1 (List.map sL a0)] [.var b0 [.fn (.func 170) [] [dP b2,dP b3]] 170,.var b1 [.sl 3 (List.map z8 a1)] 163,.var b2 [.sl 2 (List.map zg a2)] 104,.var b3 [dP b4] 28,.var b4 [.val v5] 264,.row v5 (lB a3) 1 5] (fun x=>.val (vn x 0)) (fun x=>[.var b0 [.fn (.func 170) [] [dP b2,dP b3]] 170,.var b1 [.sl 3 (List.map z8 a1)] 163,.var b2 [.sl 2 (List.map zg a2)] 104,.var b3 [dP b4] 28,.var b4 [.val v5] 264,.row v5 (lB a3) 1 5,.row (vn x 0) (List.map (eI .i64) res) 1 3]):=by
 unfold ta at h0;refine zb (X:=X) Z Tryz.func223 Z Z Tryz.ntmps223 Z Z ?_;refine aS ?_;refine aA Z Z ?_;refine aN Z ?_;refine aS ?_;iterate 3 refine aA rfl rfl ?_
 obtain⟨x1,hx1,h0⟩:=bS h0;refine z6 (zh fn250 (merge_count_int_c hx1) Z) Z ?_;obtain⟨x2,hx2,h0⟩:=bS h0;refine TL.op (OpR.call [0,1,2,3,4,5] fn249 (merge_first_int_c hx2) Z Z Z (fun _=>Z)) Z (fun w3=>?_);refine aA Z Z ?_;refine aN Z ?_;refine T.ret ?_;obtain rfl:=osi h0;exact rO [0,1,2,3,4,5,6] [4] Z (.tuple #[(vn w3 0)]) (cT Z ResL.nil) Z Z Z Z
noncomputable def tC (a0:List Int) (a1:List row_Row) (a2:List order_By) (a3:List UInt8):Option (List Int):=
 bnd (wq a0 a1 a2 a3) fun x1=>
 bnd (ta x1 a1 a2 a3) fun x2=>
 some x2
theorem merge_Sort_int_c {a0:List Int} {a1:List row_Row} {a2:List order_By} {a3:List UInt8} {v0:Value} {b1:Nat} {b2:Nat} {b3:Nat} {b4:Nat} {b5:Nat} {v6:Value} {res:(List Int)} (h0:tC a0 a1 a2 a3=some res):zo X 189 [.val v0,.fn (.func 190) [] [dP b1,dP b2]] [.row v0 (List.map (eI .i64) a0) 1 3,.var b1 [.fn (.func 170) [] [dP b3,dP b4]] 170,.var b2 [.sl 3 (List.map z8 a1)] 163,.var b3 [.sl 2 (List.map zg a2)] 104,.var b4 [dP b5] 28,.var b5 [.val v6] 264,.row v6 (lB a3) 1 5] (fun x=>.val (vn x 0)) (fun x=>[.row v0 (List.map (eI .i64) a0) 1 3,.var b1 [.fn (.func 170) [] [dP b3,dP b4]] 170,.var b2 [.sl 3 (List.map z8 a1)] 163,.var b3 [.sl 2 (List.map zg a2)] 104,.var b4 [dP b5] 28,.var b5 [.val v6] 264,.row v6 (lB a3) 1 5,.row (vn x 0) (List.map (eI .i64) res) 1 3]):=by
 unfold tC at h0;refine zb (X:=X) Z Tryz.func189 Z Z Tryz.ntmps189 Z Z ?_;refine aS ?_;refine aA Z Z ?_;refine aN Z ?_;refine aS ?_;iterate 3 refine aA rfl rfl ?_
 obtain⟨x1,hx1,h0⟩:=bS h0;refine z6 (OpR.call [0,1,2,3,4,5,6] fn224 (merge_Runs_int_c hx1) Z Z Z (fun _=>Z)) Z ?_;obtain⟨x2,hx2,h0⟩:=bS h0;refine TL.op (OpR.call [1,2,3,4,5,6] fn223 (merge_Merge_int_c hx2) Z Z Z (fun _=>Z)) Z (fun w3=>?_);refine aA Z Z ?_;refine aN Z ?_;refine T.ret ?_;obtain rfl:=osi h0;exact rO [0,1,2,3,4,5,6,7] [4] Z (.tuple #[(vn w3 0)]) (cT Z ResL.nil) Z Z Z Z
noncomputable def yx.l1 (x3:List Int) (s6:Int × (List Int)):Option (Lp (Int × (List Int)) (List Int)):=
 if s6.1<(x3.length:Int) then
 bnd (idx s6.2 s6.1) fun x15=>
 some (Lp.next (w64 (s6.1+1),(s6.2.set s6.1.toNat s6.1)))
else
 some (Lp.done s6.2)
noncomputable def yx (a0:List row_Row) (a1:List order_By) (a2:List UInt8):Option (List Int):=
 bnd (mkz 8 (a0.length:Int) (0:Int)) fun x3=>
 bnd (loop (yx.l1 x3) (0,x3):Option (List Int)) fun t5=>
 bnd (tC t5 a0 a1 a2) fun x16=>
 some x16
theorem qT {a0:List row_Row} {a1:List order_By} {a2:List UInt8} {b0:Nat} {b1:Nat} {b2:Nat} {v3:Value} {res:(List Int)} (h0:yx a0 a1 a2=some res):zo X 126 [.sl 3 (List.map z8 a0),.fn (.func 170) [] [dP b0,dP b1]] [.var b0 [.sl 2 (List.map zg a1)] 104,.var b1 [dP b2] 28,.var b2 [.val v3] 264,.row v3 (lB a2) 1 5] (fun x=>.val (vn x 0)) (fun x=>[.var b0 [.sl 2 (List.map zg a1)] 104,.var b1 [dP b2] 28,.var b2 [.val v3] 264,.row v3 (lB a2) 1 5,.row (vn x 0) (List.map (eI .i64) res) 1 3]):=by
 unfold yx at h0;refine zb (X:=X) Z Tryz.func126 Z Z Tryz.ntmps126 Z Z ?_;refine aS ?_;refine TL.op (xG Z Z (fun _=>Z)) Z (fun p1=>?_);refine TL.op (xG Z Z (fun _=>Z)) Z (fun p2=>?_);refine aA Z Z ?_;refine aN Z ?_;refine aS ?_;refine z6 (z7 4 Z Z Z Z) Z ?_;refine z6 (zk (OpR.pure Z) (xn (w9 _ _))) Z ?_;obtain⟨x3,hx3,h0⟩:=bS h0;refine TL.op (qp (eI .i64) hx3 Z Z Z Z Z Z Z Z Z Z Z (fun _=>Z)) Z (fun v4=>?_);refine aA Z Z ?_;refine aN Z ?_;refine T.seq ?_;refine aS ?_;refine aA Z Z ?_;refine z6 (yH (eI .i64) 6 Z Z Z Z) Z ?_;refine aA Z Z ?_;refine aN Z ?_;obtain⟨t5,ht5,h0⟩:=bS h0;refine zA (fun S'=>S'=⟨[(5,.val v4),(4,.val (.slice none 0 0)),(3,(dP (blk p2))),(2,(dP (blk p1)))],[.var b0 [.sl 2 (List.map zg a1)] 104,.var b1 [dP b2] 28,.var b2 [.val v3] 264,.row v3 (lB a2) 1 5,.var (blk p1) [.sl 3 (List.map z8 a0)] 163,.var (blk p2) [.fn (.func 170) [] [dP b0,dP b1]] 170,.row v4 (List.map (eI .i64) t5) 1 3],23⟩) (fun _ h=>h) ?_ ?_;rotate_left
 ·rintro _ rfl;show T X _ _ _;refine aS ?_;iterate 2 refine aA rfl rfl ?_
  obtain⟨x16,hx16,h0⟩:=bS h0;refine TL.op (OpR.call [6,5,4,0,1,2,3] fn189 (merge_Sort_int_c hx16) Z Z Z (fun _=>Z)) Z (fun w17=>?_);refine aA Z Z ?_;refine aN Z ?_;refine T.ret ?_;obtain rfl:=osi h0;exact rP [0,1,2,3,4] [4] [0,1,2,3,7] Z Z Z (.tuple #[(vn w17 0)]) (cT Z ResL.nil) Z Z Z Z
 refine T.block ?_;obtain⟨n7,n12⟩:=zy ht5;refine T.loop (fun n S'=>∃ S'',Gst S' S''∧∃ s6:Int × (List Int),S''=⟨[(12,(dN s6.1)),(11,(dN (x3.length:Int))),(5,.val v4),(4,.val (.slice none 0 0)),(3,(dP (blk p2))),(2,(dP (blk p1)))],[.var b0 [.sl 2 (List.map zg a1)] 104,.var b1 [dP b2] 28,.var b2 [.val v3] 264,.row v3 (lB a2) 1 5,.var (blk p1) [.sl 3 (List.map z8 a0)] 163,.var (blk p2) [.fn (.func 170) [] [dP b0,dP b1]] 170,.row v4 (List.map (eI .i64) s6.2) 1 3],23⟩∧wo (yx.l1 x3) n s6=some t5) n7 ?_ ?_
 ·exact⟨_,Gst.only [2,3,4,5,11,12] Z,(0,x3),Z,n12⟩
 rintro n7 _ ⟨_,g,s6,rfl,i11⟩;refine T.ghost g ?_;obtain⟨m8,q9,rfl,q10,i11⟩:=zz i11;unfold yx.l1 at q10;refine aS ?_;refine aA Z Z ?_;refine aN Z ?_;refine T.seq ?_;rcases z9 q10 with ⟨c14,q10⟩|⟨c14,q10⟩;rotate_left
 ·refine ze Z (eF c14) ?_;refine T.exit ?_;obtain rfl:=osi q10;obtain rfl:_=_:=i11;exact⟨_,Gst.only [2,3,4,5] Z,Z⟩
 refine zf Z (eT c14) ?_;refine aK Z ?_;refine T.seq ?_;refine T.block ?_;refine aS ?_;iterate 2 refine aA rfl rfl ?_
 refine aN Z ?_;refine T.region ?_;iterate 3 refine aA rfl rfl ?_
 obtain⟨x15,hx15,q10⟩:=bS q10;refine z6 (zO (eI .i64) 6 hx15 Z Z Z Z Z Z Z) Z ?_;refine zv (yD (j:=s6.1) (eI .i64) s6.1 6 hx15 Z Z Z Z Z Z Z Z Z) ?_;refine aN Z ?_;refine T.region ?_;iterate 2 refine aA rfl rfl ?_
 refine TL.nil ?_;obtain rfl:=osi q10;exact⟨m8,Nat.lt_succ_self _,_,Gst.only [2,3,4,5,11,12] Z,(w64 (s6.1+1),(s6.2.set s6.1.toNat s6.1)),Z,i11⟩
noncomputable def xW.l1 (x3:(List row_Row) × (List Int)) (x6:(List Int)) (s9:Int × (List Int)):Option (Lp (Int × (List Int)) (List Int)):=
 if s9.1<(x6.length:Int) then
 bnd (idx s9.2 s9.1) fun x18=>
 bnd (idx x3.2 x18) fun x19=>
 some (Lp.next (w64 (s9.1+1),(s9.2.set s9.1.toNat x19)))
else
 some (Lp.done s9.2)
noncomputable def xW (a0:grid_Grid) (a1:List order_By) (a2:List UInt8):Option (List Int):=
 bnd (uD a1) fun x1=>
 if x1=true then
 bnd (xd a0) fun x3=>
 bnd (vp a1 a2) fun x4=>
 bnd (yx x3.1 x4 a2) fun x6=>
 bnd (loop (xW.l1 x3 x6) (0,x6):Option (List Int)) fun t8=>
 some t8
else
 some []
theorem order_Perm_c {a0:grid_Grid} {a1:List order_By} {a2:List UInt8} {b0:Nat} {v1:Value} {res:(List Int)} (h0:xW a0 a1 a2=some res):zo X 59 [.agg [(eOP a0.fRows.fRoot),dT a0.fTail,dN a0.fEnd],dP b0,.sl 2 (List.map zg a1)] [.var b0 [.val v1] 264,.row v1 (lB a2) 1 5] (fun x=>.sl 1 (List.map (eI .i64) res)) (fun x=>[.var b0 [.val v1] 264,.row v1 (lB a2) 1 5]):=by
 unfold xW at h0;refine zb (X:=X) Z Tryz.func59 Z Z Tryz.ntmps59 Z Z ?_;refine aS ?_;refine z6 (zD Z Z) Z ?_;refine aA Z Z ?_;refine aN Z ?_;refine T.seq ?_;refine aS ?_;refine aA Z Z ?_;obtain⟨x1,hx1,h0⟩:=bS h0;refine z6 (zh fn56 (rF hx1) Z) Z ?_;refine aA Z Z ?_;refine aN Z ?_;rcases z9 h0 with ⟨c2,h0⟩|⟨c2,h0⟩;rotate_left
 ·refine zf Z (zR (eN c2)) ?_;refine aS ?_;refine aA Z Z ?_;refine aN Z ?_;refine T.ret ?_;obtain rfl:=osi h0;exact zE (ks:=[0,1]) (Gst.trans (Gst.only [6] Z) (Gst.denil (ReS.cons (Re.base .nil) ReS.nil) (ReO.var (ReL.cons Re.refl ReL.nil) (ReO.same ReO.nil)))) undef (cT Z ResL.nil) Z Z Z Z
 refine ze Z (zQ (c2)) ?_;refine aK Z ?_;refine aS ?_;refine aA Z Z ?_;obtain⟨x3,hx3,h0⟩:=bS h0;refine z6 (zh fn104 (sA hx3) Z) Z ?_;iterate 5 refine aA rfl rfl ?_
 refine aN Z ?_;refine aS ?_;iterate 3 refine aA rfl rfl ?_
 obtain⟨x4,hx4,h0⟩:=bS h0;refine TL.op (OpR.call [0,1] fn105 (tO hx4) Z Z Z (fun _=>Z)) Z (fun w5=>?_);obtain⟨x6,hx6,h0⟩:=bS h0;refine TL.op (OpR.call [2,3,0,1] fn126 (qT hx6) Z Z Z (fun _=>Z)) Z (fun w7=>?_);refine aA Z Z ?_;refine aN Z ?_;refine T.seq ?_;refine aS ?_;refine aA Z Z ?_;refine z6 (yH (eI .i64) 4 Z Z Z Z) Z ?_;refine aA Z Z ?_;refine aN Z ?_;obtain⟨t8,ht8,h0⟩:=bS h0;refine zA (fun S'=>S'=⟨[(9,.val (vn w7 0)),(6,.val (.slice none 0 0))],[.var b0 [.val v1] 264,.row v1 (lB a2) 1 5,.row (vn w7 0) (List.map (eI .i64) t8) 1 3],41⟩) (fun _ h=>h) ?_ ?_;rotate_left
 ·rintro _ rfl;show T X _ _ _;refine aS ?_;iterate 2 refine aA rfl rfl ?_
  refine aN Z ?_;refine T.ret ?_;obtain rfl:=osi h0;exact zE (ks:=[0,1]) (Gst.trans (Gst.only [6] Z) (Gst.trans (zC 2 Z Z (ReS.cons (Re.base .all) ReS.nil) (ReO.same (ReO.same (ReO.same ReO.nil)))) (Gst.pick [0,1] Z Z))) undef (cT Z ResL.nil) Z Z Z Z
 refine T.block ?_;obtain⟨n10,n15⟩:=zy ht8;refine T.loop (fun n S'=>∃ S'',Gst S' S''∧∃ s9:Int × (List Int),S''=⟨[(27,(dN s9.1)),(26,(dN (x6.length:Int))),(25,.val (vn w7 0)),(9,.val (vn w7 0)),(8,.sl 1 (List.map (eI .i64) x3.2)),(6,.val (.slice none 0 0))],[.var b0 [.val v1] 264,.row v1 (lB a2) 1 5,.row (vn w7 0) (List.map (eI .i64) s9.2) 1 3],41⟩∧wo (xW.l1 x3 x6) n s9=some t8) n10 ?_ ?_
 ·exact⟨_,gP [6,8,9,25,26,27] [0,1,4] Z Z Z,(0,x6),Z,n15⟩
 rintro n10 _ ⟨_,g,s9,rfl,i14⟩;refine T.ghost g ?_;obtain⟨m11,q12,rfl,q13,i14⟩:=zz i14;unfold xW.l1 at q13;refine aS ?_;refine aA Z Z ?_;refine aN Z ?_;refine T.seq ?_;rcases z9 q13 with ⟨c17,q13⟩|⟨c17,q13⟩;rotate_left
 ·refine ze Z (eF c17) ?_;refine T.exit ?_;obtain rfl:=osi q13;obtain rfl:_=_:=i14;exact⟨_,Gst.only [6,9] Z,Z⟩
 refine zf Z (eT c17) ?_;refine aK Z ?_;refine T.seq ?_;refine T.block ?_;refine aS ?_;refine aA Z Z ?_;obtain⟨x18,hx18,q13⟩:=bS q13;refine z6 (zO (eI .i64) 2 hx18 Z Z Z Z Z Z Z) Z ?_;refine z6 (zH (j:=s9.1) (eI .i64) 2 hx18 Z Z Z Z) Z ?_;iterate 2 refine aA rfl rfl ?_
 refine aN Z ?_;refine T.region ?_;iterate 4 refine aA rfl rfl ?_
 obtain⟨x19,hx19,q13⟩:=bS q13;refine z6 (zp (eI .i64) hx19 Z Z Z Z Z) Z ?_;refine aA Z Z ?_;refine z6 (zO (eI .i64) 2 hx18 Z Z Z Z Z Z Z) Z ?_;refine zv (yD (j:=s9.1) (eI .i64) x19 2 hx18 Z Z Z Z Z Z Z Z Z) ?_;refine aN Z ?_;refine T.region ?_;iterate 2 refine aA rfl rfl ?_
 refine TL.nil ?_;obtain rfl:=osi q13;exact⟨m11,Nat.lt_succ_self _,_,Gst.only [6,8,9,25,26,27] Z,(w64 (s9.1+1),(s9.2.set s9.1.toNat x19)),Z,i14⟩
noncomputable def xD.l1 (a0:Int) (a1:List Int) (s5:Int × (List Bool)):Option (Lp (Int × (List Bool)) (Ex (List Bool) ((List Bool) × Bool))):=
 if s5.1<(a1.length:Int) then
 bnd (idx a1 s5.1) fun x14=>
 bnd (if x14<0 then
 some true
else
 if x14≥a0 then
 some true
else
 bnd (idx s5.2 x14) fun x18=>
 some x18:Option Bool) fun t15=>
 if t15=true then
 some (Lp.done (Ex.ret ([],false)))
else
 bnd (idx s5.2 x14) fun x20=>
 some (Lp.next (w64 (s5.1+1),(s5.2.set x14.toNat true)))
else
 some (Lp.done (Ex.brk s5.2))
noncomputable def xD (a0:Int) (a1:List Int):Option ((List Bool) × Bool):=
 bnd (mkz 1 a0 (false:Bool)) fun x1=>
 bnd (loop (xD.l1 a0 a1) (0,x1):Option (Ex (List Bool) ((List Bool) × Bool))) fun t3=>match t3 with
| .brk u4=>
 some (u4,true)
| .ret u4=>some u4
theorem pH {a0:Int} {a1:List Int} {res:(List Bool) × Bool} (h0:xD a0 a1=some res):zo X 98 [dN a0,.sl 1 (List.map (eI .i64) a1)] [] (fun x=>.tup [.sl 1 (List.map eB res.1),dT res.2]) (fun x=>[]):=by
 unfold xD at h0;refine zb (X:=X) Z Tryz.func98 Z Z Tryz.ntmps98 Z Z ?_;refine aS ?_;iterate 2 refine aA rfl rfl ?_
 refine aN Z ?_;refine aS ?_;refine aA Z Z ?_;obtain⟨x1,hx1,h0⟩:=bS h0;refine TL.op (qp eB hx1 Z Z Z Z Z Z Z Z Z Z Z (fun _=>Z)) Z (fun v2=>?_);refine aA Z Z ?_;refine aN Z ?_;refine T.seq ?_;refine aS ?_;refine aA Z Z ?_;refine z6 (zk (OpR.pure Z) (xn (w9 _ _))) Z ?_;refine aA Z Z ?_;refine aN Z ?_;obtain⟨t3,ht3,h0⟩:=bS h0;refine zA (fun S'=>∃ u4,t3=Ex.brk u4∧S'=⟨[(6,.val v2),(5,(dT false)),(4,.val (.slice none 0 0))],[.row v2 (List.map eB u4) 1 4],35⟩) (fun _ h=>h) ?_ ?_;rotate_left
 ·rintro _ ⟨u4,rfl,rfl⟩;show T X _ _ _;refine aS ?_;iterate 3 refine aA rfl rfl ?_
  refine aN Z ?_;refine T.ret ?_;obtain rfl:=osi h0;exact zE (ks:=[]) (Gst.trans (Gst.only [4,5] Z) (Gst.trans (zC 0 Z Z (ReS.cons Re.refl (ReS.cons (Re.base .all) ReS.nil)) (ReO.same ReO.nil)) (Gst.pick [] Z Z))) undef (cT Z (cT Z ResL.nil)) Z Z Z Z
 refine T.block ?_;obtain⟨n6,n11⟩:=zy ht3;refine T.loop (fun n S'=>∃ S'',Gst S' S''∧∃ s5:Int × (List Bool),S''=⟨[(13,(dN s5.1)),(12,(dN (a1.length:Int))),(11,.sl 1 (List.map (eI .i64) a1)),(6,.val v2),(5,(dT false)),(4,.val (.slice none 0 0)),(0,(dN a0))],[.row v2 (List.map eB s5.2) 1 4],35⟩∧wo (xD.l1 a0 a1) n s5=some t3) n6 ?_ ?_
 ·exact⟨_,Gst.only [0,4,5,6,11,12,13] Z,(0,x1),Z,n11⟩
 rintro n6 _ ⟨_,g,s5,rfl,i10⟩;refine T.ghost g ?_;obtain⟨m7,q8,rfl,q9,i10⟩:=zz i10;unfold xD.l1 at q9;refine aS ?_;refine aA Z Z ?_;refine aN Z ?_;refine T.seq ?_;rcases z9 q9 with ⟨c13,q9⟩|⟨c13,q9⟩;rotate_left
 ·refine ze Z (eF c13) ?_;refine T.exit ?_;obtain rfl:=osi q9;obtain rfl:_=_:=i10;exact⟨_,Gst.only [4,5,6] Z,_,Z,Z⟩
 refine zf Z (eT c13) ?_;refine aK Z ?_;refine T.seq ?_;refine T.block ?_;refine aS ?_;obtain⟨x14,hx14,q9⟩:=bS q9;refine z6 (zp (eI .i64) hx14 Z Z Z Z Z) Z ?_;iterate 2 refine aA rfl rfl ?_
 refine aN Z ?_;refine T.seq ?_;refine T.seq ?_;obtain⟨t15,ht15,q9⟩:=bS q9;refine zA (fun S'=>S'=⟨[(29,(dT t15)),(13,(dN s5.1)),(12,(dN (a1.length:Int))),(11,.sl 1 (List.map (eI .i64) a1)),(8,(dN x14)),(6,.val v2),(5,(dT false)),(4,.val (.slice none 0 0)),(0,(dN a0))],[.row v2 (List.map eB s5.2) 1 4],35⟩) (fun _ h=>h) ?_ ?_;rotate_left
 ·rintro _ rfl;show T X _ _ _;rcases z9 q9 with ⟨c19,q9⟩|⟨c19,q9⟩
  ·refine zf Z (c19) ?_;refine aS ?_;iterate 2 refine aA rfl rfl ?_
   refine aN Z ?_;refine T.ret ?_;obtain rfl:=osi q9;obtain rfl:_=_:=i10;obtain rfl:=osi h0;exact zE (ks:=[]) (Gst.trans (Gst.only [4,5] Z) (Gst.trans (Gst.denil (ReS.cons Re.refl (ReS.cons (Re.base .nil) ReS.nil)) (ReO.same ReO.nil)) (Gst.pick [] Z Z))) undef (cT Z (cT Z ResL.nil)) Z Z Z Z
  refine ze Z (eN c19) ?_;refine aK Z ?_;refine T.region ?_;iterate 2 refine aA rfl rfl ?_
  obtain⟨x20,hx20,q9⟩:=bS q9;refine z6 (zO eB 0 hx20 Z Z Z Z Z Z Z) Z ?_;refine zv (yD (j:=x14) eB true 0 hx20 Z Z Z Z Z Z Z Z Z) ?_;refine aN Z ?_;refine T.region ?_;iterate 2 refine aA rfl rfl ?_
  refine TL.nil ?_;obtain rfl:=osi q9;exact⟨m7,Nat.lt_succ_self _,_,Gst.only [0,4,5,6,11,12,13] Z,(w64 (s5.1+1),(s5.2.set x14.toNat true)),Z,i10⟩
 refine T.region ?_;iterate 3 refine aA rfl rfl ?_
 rcases z9 ht15 with ⟨c16,ht15⟩|⟨c16,ht15⟩
 ·refine TL.off Z Z Z Z (eT c16) Z Z ?_;refine TL.off Z Z Z Z (eT c16) Z Z ?_;refine TL.off Z Z Z Z (eT c16) Z Z ?_;refine z6 (zt Z (eT c16) Z) Z ?_;refine aA Z Z ?_;refine TL.off Z Z Z Z Z Z Z ?_;refine TL.off Z Z Z Z Z Z Z ?_;refine TL.off Z Z Z Z Z Z Z ?_;refine TL.off Z Z Z Z Z Z Z ?_;refine z6 (zt Z Z Z) Z ?_;refine TL.nil ?_;obtain rfl:=osi ht15;exact⟨_,Gst.only [0,4,5,6,8,11,12,13,29] Z,Z⟩
 refine TL.on Z Z Z Z (eF c16) ?_;refine aA Z Z ?_;refine TL.on Z Z Z Z (eF c16) ?_;refine aA Z Z ?_;refine TL.on Z Z Z Z (eF c16) ?_;refine aA Z Z ?_;refine z6 (zx Z (eF c16) Z) Z ?_;refine aA Z Z ?_;rcases z9 ht15 with ⟨c17,ht15⟩|⟨c17,ht15⟩
 ·refine TL.off Z Z Z Z (eT c17) Z Z ?_;refine TL.off Z Z Z Z (eT c17) Z Z ?_;refine TL.off Z Z Z Z (eT c17) Z Z ?_;refine TL.off Z Z Z Z (eT c17) Z Z ?_;refine z6 (zt Z (eT c17) Z) Z ?_;refine TL.nil ?_;obtain rfl:=osi ht15;exact⟨_,Gst.only [0,4,5,6,8,11,12,13,29] Z,Z⟩
 refine TL.on Z Z Z Z (eF c17) ?_;refine aA Z Z ?_;refine TL.on Z Z Z Z (eF c17) ?_;refine aA Z Z ?_;refine TL.on Z Z Z Z (eF c17) ?_;obtain⟨x18,hx18,ht15⟩:=bS ht15;refine z6 (zO eB 0 hx18 Z Z Z Z Z Z Z) Z ?_;refine TL.on Z Z Z Z (eF c17) ?_;refine z6 (zH (j:=x14) eB 0 hx18 Z Z Z Z) Z ?_;refine z6 (zx Z (eF c17) Z) Z ?_;refine TL.nil ?_;obtain rfl:=osi ht15;exact⟨_,Gst.only [0,4,5,6,8,11,12,13,29] Z,Z⟩
noncomputable def yn.l1 (a0:List Bool) (a1:List Bool) (s4:Int):Option (Lp Int (Ex Unit Bool)):=
 if s4<(a0.length:Int) then
 bnd (idx a0 s4) fun x14=>
 bnd (idx a1 s4) fun x15=>
 if (x14==x15)=true then
 some (Lp.next (w64 (s4+1)))
else
 some (Lp.done (Ex.ret false))
else
 some (Lp.done (Ex.brk ()))
noncomputable def yn (a0:List Bool) (a1:List Bool):Option Bool:=
 if (a0.length:Int)=(a1.length:Int) then
 bnd (loop (yn.l1 a0 a1) 0:Option (Ex Unit Bool)) fun t2=>match t2 with
| .brk u3=>
 some true
| .ret u3=>some u3
else
 some false
theorem ro {a0:List Bool} {a1:List Bool} {res:Bool} (h0:yn a0 a1=some res):zo X 99 [.sl 1 (List.map eB a0),.sl 1 (List.map eB a1)] [] (fun x=>(dT res)) (fun x=>[]):=by
 unfold yn at h0;refine zb (X:=X) Z Tryz.func99 Z Z Tryz.ntmps99 Z Z ?_;refine aS ?_;refine aA Z Z ?_;refine aN Z ?_;refine T.seq ?_;refine aS ?_;refine aA Z Z ?_;refine z6 (zk (OpR.pure Z) (xn (w9 _ _))) Z ?_;refine aA Z Z ?_;refine z6 (zk (OpR.pure Z) (xn (w9 _ _))) Z ?_;refine aA Z Z ?_;refine aN Z ?_;rcases z9 h0 with ⟨c1,h0⟩|⟨c1,h0⟩;rotate_left
 ·refine zf Z (zR (beq_eq_false_iff_ne.2 c1)) ?_;refine aS ?_;refine aA Z Z ?_;refine aN Z ?_;refine T.ret ?_;obtain rfl:=osi h0;exact rO [] [4] Z undef (cT Z ResL.nil) Z Z Z Z
 refine ze Z (zQ (beq_iff_eq.2 c1)) ?_;refine aK Z ?_;refine T.seq ?_;refine aS ?_;refine aA Z Z ?_;refine z6 (zk (OpR.pure Z) (xn (w9 _ _))) Z ?_;refine aA Z Z ?_;refine aN Z ?_;obtain⟨t2,ht2,h0⟩:=bS h0;refine zA (fun S'=>∃ u3,t2=Ex.brk u3∧S'=⟨[(4,(dT false))],[],26⟩) (fun _ h=>h) ?_ ?_;rotate_left
 ·rintro _ ⟨u3,rfl,rfl⟩;show T X _ _ _;refine aS ?_;refine aA Z Z ?_;refine aN Z ?_;refine T.ret ?_;obtain rfl:=osi h0;exact rO [] [4] Z undef (cT Z ResL.nil) Z Z Z Z
 refine T.block ?_;obtain⟨n5,n10⟩:=zy ht2;refine T.loop (fun n S'=>∃ S'',Gst S' S''∧∃ s4:Int,S''=⟨[(13,(dN s4)),(12,(dN (a0.length:Int))),(4,(dT false)),(1,.sl 1 (List.map eB a1)),(0,.sl 1 (List.map eB a0))],[],26⟩∧wo (yn.l1 a0 a1) n s4=some t2) n5 ?_ ?_
 ·exact⟨_,Gst.only [0,1,4,12,13] Z,0,Z,n10⟩
 rintro n5 _ ⟨_,g,s4,rfl,i9⟩;refine T.ghost g ?_;obtain⟨m6,q7,rfl,q8,i9⟩:=zz i9;unfold yn.l1 at q8;refine aS ?_;refine aA Z Z ?_;refine aN Z ?_;refine T.seq ?_;rcases z9 q8 with ⟨c12,q8⟩|⟨c12,q8⟩;rotate_left
 ·refine ze Z (eF c12) ?_;refine T.exit ?_;obtain rfl:=osi q8;obtain rfl:_=_:=i9;exact⟨_,Gst.only [4] Z,_,Z,Z⟩
 refine zf Z (eT c12) ?_;refine aK Z ?_;refine T.seq ?_;refine T.block ?_;refine aS ?_;iterate 2 refine aA rfl rfl ?_
 refine aN Z ?_;refine T.seq ?_;obtain⟨x14,hx14,q8⟩:=bS q8;obtain⟨x15,hx15,q8⟩:=bS q8;refine yr zV [.sl 1 (List.map eB a0),dN s4,.nod [dT x14],dT x14,.sl 1 (List.map eB a1),dN s4,.nod [dT x15],dT x15,dT (!(x14==x15))] [0,1,4,12,13,24] (by decide +kernel) Z ?_ Z ?_
 ·iterate 2 refine aB rfl rfl rfl ?_
  refine zw.yes (Want.plain Z) Z (zp eB hx14 Z Z Z Z Z) ?_;iterate 3 refine aB rfl rfl rfl ?_
  refine zw.yes (Want.plain Z) Z (zp eB hx15 Z Z Z Z Z) ?_;refine aB Z Z Z ?_;refine zw.yes (Want.plain Z) Z (tp Z Z Z Z) ?_;exact zw.nil
 show T X _ _ _;rcases z9 q8 with ⟨c16,q8⟩|⟨c16,q8⟩
 ·refine ze Z (zQ (c16)) ?_;refine aK Z ?_;refine T.region ?_;iterate 2 refine aA rfl rfl ?_
  refine TL.nil ?_;obtain rfl:=osi q8;exact⟨m6,Nat.lt_succ_self _,_,Gst.only [0,1,4,12,13] Z,w64 (s4+1),Z,i9⟩
 refine zf Z (zR (eN c16)) ?_;refine aS ?_;refine aA Z Z ?_;refine aN Z ?_;refine T.ret ?_;obtain rfl:=osi q8;obtain rfl:_=_:=i9;obtain rfl:=osi h0;exact rO [] [4] Z undef (cT Z ResL.nil) Z Z Z Z
noncomputable def yU (a0:Int) (a1:row_Row) (a2:List row_Row):Option (List row_Row):=
 bnd (app 40 a2 [a1]) fun x32=>
 some x32
theorem qy {a0:Int} {a1:row_Row} {a2:List row_Row} {b0:Nat} {b1:Nat} {v2:Value} {res:(List row_Row)} (h0:yU a0 a1 a2=some res):sY X b0 [dN a0,.agg [.sl 5 (List.map zj a1.fCells),dN a1.fEnd,dT a1.fHidden]] [.lp b0 .ready none [13,14] tx tw [(3,(dP b1))] 20,.var b1 [.val v2] 163,.row v2 (List.map z8 a2) 3 49] (fun x=>(dT true)) (fun x=>[.lp b0 .ready none [13,14] tx tw [(3,(dP b1))] 20,.var b1 [.val (vn x 0)] 163,.row (vn x 0) (List.map z8 res) 3 49]):=by
 unfold yU at h0;refine sY.mk (X:=X) Z Z Z ?_;refine T.region ?_;refine TL.op (OpR.alloc Z Z (fun _=>Z)) Z (fun p31=>?_);refine zv (OpR.store 3 Z Z Z Z Z Z Z Z) ?_;refine TL.nil ?_;refine RoundA.mk ?_;refine T.block ?_;refine T.region ?_;refine z6 (z7 1 Z Z Z Z) Z ?_;refine z6 (z7 3 Z Z Z Z) Z ?_;refine z6 (yN Z Z Z Z Z Z Z) Z ?_;obtain⟨x32,hx32,h0⟩:=bS h0;refine TL.op (zM (m:=[a1]) z8 2 hx32 Z Z Z Z Z Z Z Z Z (fun _=>Z)) Z (fun v33=>?_);refine zv (OpR.store 1 Z Z Z Z Z Z Z Z) ?_;refine TL.nil ?_;obtain rfl:=osi h0;exact sX.mk (ks:=[0,1,2]) (gP [] [0,1,2] Z Z Z) (.tuple #[v33]) Z Z Z Z Z
noncomputable def yl.l1 (a1:Int) (s10:Int × (List row_Row) × (List wFr)):Option (Lp (Int × (List row_Row) × (List wFr)) (List row_Row)):=
 if s10.1<a1 then
  bnd (ya s10.2.2) fun x19=>
  bnd (idx s10.2.2 x19) fun x20=>
  bnd (some x20.fN) fun q21=>match q21 with
   | none=>
    none
   | some z22=>
    bnd (vi z22) fun x24=>
    bnd (if x20.fNext=(x24.fItems.length:Int) then
     bnd (zL s10.2.2) fun x29=>
     some x29.2
    else
     some s10.2.2:Option (List wFr)) fun t26=>
    bnd (ya t26) fun x31=>
    bnd (idx t26 x31) fun x32=>
    bnd (some x32.fN) fun q33=>match q33 with
     | none=>
      none
     | some z34=>
      bnd (vi z34) fun x36=>
      bnd (idx x36.fItems x32.fNext) fun x38=>
      bnd (yU s10.1 x38 s10.2.1) fun x39=>
      some (Lp.next (w64 (s10.1+1),x39,(t26.set x31.toNat (⟨x32.fN,x32.fFirst,w64 (x32.fNext+1)⟩:wFr))))
 else
  some (Lp.done s10.2.1)
noncomputable def yl (a0:Int) (a1:Int) (a2:Option NP) (a3:List row_Row):Option (List row_Row):=
 if a0=a1 then
 some a3
else
 bnd (ym (⟨a2⟩:tTr)) fun x4=>
 match x4 with
| .inl x4=>
 none
| .inr x4=>
 bnd (zJ x4.1 x4.2.1 x4.2.2 0 a0) fun x5=>
 bnd (loop (yl.l1 a1) (a0,a3,x5):Option (List row_Row)) fun t6=>
 some t6
theorem rn {a0:Int} {a1:Int} {a2:Option NP} {a3:List row_Row} {b0:Nat} {b1:Nat} {b2:Nat} {b3:Nat} {b4:Nat} {v5:Value} {res:(List row_Row)} (h0:yl a0 a1 a2 a3=some res):zo X 146 [.fn (.yield b0) [] [],dP b1,dP b2,dP b3] [.lp b0 .ready none [13,14] tx tw [(3,(dP b4))] 20,.var b1 [dN a0] 3,.var b2 [dN a1] 3,.var b3 [(eOP a2)] 25,.var b4 [.val v5] 163,.row v5 (List.map z8 a3) 3 49] (fun x=>.tup []) (fun x=>[.lp b0 .ready none [13,14] tx tw [(3,(dP b4))] 20,.var b1 [dN a0] 3,.var b2 [dN a1] 3,.var b3 [(eOP a2)] 25,.var b4 [.val (vn x 0)] 163,.row (vn x 0) (List.map z8 res) 3 49]):=by
 unfold yl at h0;refine zb (X:=X) Z Tryz.func146 Z Z Tryz.ntmps146 Z Z ?_;refine T.seq ?_;refine aS ?_;refine z6 (z7 1 Z Z Z Z) Z ?_;refine z6 (z7 2 Z Z Z Z) Z ?_;refine aA Z Z ?_;refine aN Z ?_;rcases z9 h0 with ⟨c1,h0⟩|⟨c1,h0⟩
 ·refine zf Z (beq_iff_eq.2 c1) ?_;refine T.ret ?_;obtain rfl:=osi h0;exact rO [0,1,2,3,4,5] [] Z (.tuple #[v5]) ResL.nil Z Z Z Z
 refine ze Z (beq_eq_false_iff_ne.2 c1) ?_;refine aK Z ?_;refine aS ?_;refine TL.op (OpR.alloc Z Z (fun _=>Z)) Z (fun p2=>?_);refine aN Z ?_;refine T.seq ?_;obtain⟨x4,hx4,h0⟩:=bS h0;rcases x4 with x4|x4
 ·dsimp only at h0;exact (by cases h0)
 dsimp only at h0;obtain⟨x5,hx5,h0⟩:=bS h0;refine yA zV (fun env3=>[.agg [(eOP a2)],.nod [.sl 1 (List.map eNP x4.1),.sl 3 (List.map z8 x4.2.1),dN x4.2.2],dN a0,.tup []]) (fun D env3=>[.lp b0 .ready none [13,14] tx tw [(3,(dP b4))] 20,.var b1 [dN a0] 3,.var b2 [dN a1] 3,.var b3 [(eOP a2)] 25,.var b4 [.val v5] 163,.row v5 (List.map z8 a3) 3 49,(bif D 3 then .var (blk p2) [.val (vn (env3 3) 0)] 228 else .var (blk p2) [.val (.slice none 0 0)] 228)]++(bif D 3 then [.row (vn (env3 3) 0) (List.map yF x5) 3 234] else [])) [0,1,0,7] [0,1,2,5] _ (by decide +kernel) (by decide +kernel) (fun _=>Z) (fun _=>Z) ?_ (fun _=>Z) (fun _=>Z) ?_
 ·refine oT (.agg [(eOP a2)]) (fun _ _=>z7 3 Z Z Z Z) ?_;refine oT (.nod [.sl 1 (List.map eNP x4.1),.sl 3 (List.map z8 x4.2.1),dN x4.2.2]) (fun _ _=>zh fn148 (wb hx4) Z) ?_;refine oT ((dN a0)) (fun _ _=>z7 1 Z Z Z Z) ?_;refine zi true ?_ (fun D hA env3 x j hj hD=>match j,hj,hD with|0,_,_=>Z|1,_,_=>Z|2,_,_=>Z|3,hj,_=>absurd Z hj|_+4,_,_=>Z) ?_
  ·intro D env3 hA;exact zK [(3,false)] ⟨hA.me,trivial⟩ (Want.plain Z) (OpR.call [6] fn147 (wt hx5) Z Z Z (fun _=>Z)) (fun x=>Z) (fun x=>Z)
  exact trivial
 intro env3;show T X _ _ _;refine aS ?_;refine z6 (z7 1 Z Z Z Z) Z ?_;refine aA Z Z ?_;refine aN Z ?_;obtain⟨t6,ht6,h0⟩:=bS h0;refine T.cutN (fun S'=>∃ y7:Value,S'=⟨[],[.lp b0 .ready none [13,14] tx tw [(3,(dP b4))] 20,.var b1 [dN a0] 3,.var b2 [dN a1] 3,.var b3 [(eOP a2)] 25,.var b4 [.val y7] 163,.row y7 (List.map z8 t6) 3 49],62⟩) (fun _ _ g ⟨h,S',ds,g',r⟩=>⟨h,S',ds,Gst.trans g g',r⟩) ?_ ?_;rotate_left
 ·rintro _ ⟨y7,rfl⟩;obtain rfl:=osi h0;exact xg (ks:=[0,1,2,3,4,5]) (Gst.only [] Z) (.tuple #[y7]) ResL.nil Z Z Z Z
 refine T.block ?_;obtain⟨n11,n16⟩:=zy ht6;refine T.loop (fun n S'=>∃ S'',Gst S' S''∧∃ y8:Value,∃ y9:Value,∃ s10:Int × (List row_Row) × (List wFr),S''=⟨[(6,(dN s10.1)),(5,(dP (blk p2))),(2,(dP b2)),(0,.fn (.yield b0) [] [])],[.lp b0 .ready none [13,14] tx tw [(3,(dP b4))] 20,.var b1 [dN a0] 3,.var b2 [dN a1] 3,.var b3 [(eOP a2)] 25,.var b4 [.val y8] 163,.row y8 (List.map z8 s10.2.1) 3 49,.var (blk p2) [.val y9] 228,.row y9 (List.map yF s10.2.2) 3 234],62⟩∧wo (yl.l1 a1) n s10=some t6) n11 ?_ ?_
 ·exact⟨_,Gst.only [0,2,5,6] Z,v5,(vn (env3 3) 0),(a0,a3,x5),Z,n16⟩
 rintro n11 _ ⟨_,g,y8,y9,s10,rfl,i15⟩;refine T.ghost g ?_;obtain⟨m12,q13,rfl,q14,i15⟩:=zz i15;unfold yl.l1 at q14;refine T.seq ?_;refine aS ?_;refine aA Z Z ?_;refine z6 (z7 2 Z Z Z Z) Z ?_;refine aA Z Z ?_;refine aN Z ?_;rcases z9 q14 with ⟨c18,q14⟩|⟨c18,q14⟩;rotate_left
 ·refine ze Z (eF c18) ?_;refine T.exit ?_;obtain rfl:=osi q14;obtain rfl:_=_:=i15;exact⟨_,gP [] [0,1,2,3,4,5] Z Z Z,y8,Z⟩
 refine zf Z (eT c18) ?_;refine aK Z ?_;refine T.seq ?_;refine T.block ?_;refine T.seq ?_;refine aS ?_;obtain⟨x19,hx19,q14⟩:=bS q14;refine z6 (OpR.call [6,7] fn149 (yy hx19) Z Z Z (fun _=>Z)) Z ?_;refine aA Z Z ?_;refine aN Z ?_;refine T.seq ?_;obtain⟨x20,hx20,q14⟩:=bS q14;obtain⟨q21,hq21,q14⟩:=bS q14;rcases q21 with _|z22
 ·dsimp only at q14;exact (by cases q14)
 dsimp only at q14;obtain⟨x24,hx24,q14⟩:=bS q14;rw[xf hx24] at hq21;refine yr zV [.val (.pointer (some ⟨blk y9,x19.toNat*3,none⟩)),.val (.pointer (some ⟨blk y9,x19.toNat*3,none⟩)),.val (.pointer (some ⟨blk y9,x19.toNat*3+2,none⟩)),dN x20.fNext,.val (.pointer (some ⟨blk y9,x19.toNat*3,none⟩)),.val (.pointer (some ⟨blk y9,x19.toNat*3,none⟩)),.val (.pointer (some ⟨blk y9,x19.toNat*3,none⟩)),.nod [.sl 1 (List.map eNP x24.fKids),.sl 3 (List.map z8 x24.fItems),dN x24.fN],.nod [.sl 1 (List.map eNP x24.fKids),.sl 3 (List.map z8 x24.fItems),dN x24.fN],.nod [.sl 3 (List.map z8 x24.fItems),dN x24.fN],.sl 3 (List.map z8 x24.fItems),dN (x24.fItems.length:Int),dT (x20.fNext==(x24.fItems.length:Int))] [0,2,5,6,35] (by decide +kernel) Z ?_ Z ?_
 ·iterate 3 refine aB rfl rfl rfl ?_
  refine zw.yes (Want.plain Z) Z (yL (j:=x19) yF 7 hx20 Z Z Z Z) ?_;iterate 3 refine aB rfl rfl rfl ?_
  refine zw.yes (Want.plain Z) Z (zk (zH (j:=x19) yF 7 hx20 Z Z Z Z) (congrArg eOP (osi hq21))) ?_;iterate 3 refine aB rfl rfl rfl ?_
  refine zw.yes (Want.plain Z) Z (zk (OpR.pure Z) (xn (w9 _ _))) ?_;refine aB Z Z Z ?_;exact zw.nil
 show T X _ _ _;obtain⟨t26,ht26,q14⟩:=bS q14;refine zA (fun S'=>∃ y27:Value,S'=⟨[(6,(dN s10.1)),(5,(dP (blk p2))),(2,(dP b2)),(0,.fn (.yield b0) [] [])],[.lp b0 .ready none [13,14] tx tw [(3,(dP b4))] 20,.var b1 [dN a0] 3,.var b2 [dN a1] 3,.var b3 [(eOP a2)] 25,.var b4 [.val y8] 163,.row y8 (List.map z8 s10.2.1) 3 49,.var (blk p2) [.val y27] 228,.row y27 (List.map yF t26) 3 234],62⟩) (fun _ h=>h) ?_ ?_
 ·rcases z9 ht26 with ⟨c28,ht26⟩|⟨c28,ht26⟩;rotate_left
  ·refine ze Z (beq_eq_false_iff_ne.2 c28) ?_;refine T.skip ?_;obtain rfl:=osi ht26;exact⟨_,Gst.only [0,2,5,6] Z,y9,Z⟩
  refine zf Z (beq_iff_eq.2 c28) ?_;refine T.region ?_;obtain⟨x29,hx29,ht26⟩:=bS ht26;refine TL.op (OpR.call [6,7] fn150 (wa hx29) Z Z Z (fun _=>Z)) Z (fun w30=>?_);refine TL.nil ?_;obtain rfl:=osi ht26;exact⟨_,Gst.only [0,2,5,6] Z,(vn w30 0),Z⟩
 rintro _ ⟨y27,rfl⟩;show T X _ _ _;refine aS ?_;obtain⟨x31,hx31,q14⟩:=bS q14;refine z6 (OpR.call [6,7] fn149 (yy hx31) Z Z Z (fun _=>Z)) Z ?_;refine aA Z Z ?_;refine aN Z ?_;refine T.seq ?_;refine T.seq ?_;obtain⟨x32,hx32,q14⟩:=bS q14;obtain⟨q33,hq33,q14⟩:=bS q14;rcases q33 with _|z34
 ·dsimp only at q14;exact (by cases q14)
 dsimp only at q14;obtain⟨x36,hx36,q14⟩:=bS q14;rw[xf hx36] at hq33;obtain⟨x38,hx38,q14⟩:=bS q14;obtain⟨x39,hx39,q14⟩:=bS q14;refine yA zV (fun env37=>[.fn (.yield b0) [] [],dN s10.1,.val (.pointer (some ⟨blk y27,x31.toNat*3,none⟩)),.val (.pointer (some ⟨blk y27,x31.toNat*3,none⟩)),.val (.pointer (some ⟨blk y27,x31.toNat*3,none⟩)),.nod [.sl 1 (List.map eNP x36.fKids),.sl 3 (List.map z8 x36.fItems),dN x36.fN],.nod [.sl 1 (List.map eNP x36.fKids),.sl 3 (List.map z8 x36.fItems),dN x36.fN],.nod [.sl 3 (List.map z8 x36.fItems),dN x36.fN],.sl 3 (List.map z8 x36.fItems),.val (.pointer (some ⟨blk y27,x31.toNat*3,none⟩)),.val (.pointer (some ⟨blk y27,x31.toNat*3,none⟩)),.val (.pointer (some ⟨blk y27,x31.toNat*3+2,none⟩)),dN x32.fNext,.nod [.sl 5 (List.map zj x38.fCells),dN x38.fEnd,dT x38.fHidden],.agg [.sl 5 (List.map zj x38.fCells),dN x38.fEnd,dT x38.fHidden],dT true,dT false]) (fun D env37=>[.lp b0 .ready none [13,14] tx tw [(3,(dP b4))] 20,.var b1 [dN a0] 3,.var b2 [dN a1] 3,.var b3 [(eOP a2)] 25,(bif D 15 then .var b4 [.val (vn (env37 15) 0)] 163 else .var b4 [.val y8] 163),(bif D 15 then .row (vn (env37 15) 0) (List.map z8 x39) 3 49 else .row y8 (List.map z8 s10.2.1) 3 49),.var (blk p2) [.val y27] 228,.row y27 (List.map yF t26) 3 234]) [0,0,0,4,12,28,60,124,252,0,512,1536,3584,8188,16380,32767,65535] [0,2,5,6,8,54] _ (by decide +kernel) (by decide +kernel) (fun _=>Z) (fun _=>Z) ?_ (fun _=>Z) (fun _=>Z) ?_;rotate_left
 ·intro env37;show T X _ _ _;refine ze Z Z ?_;refine aK Z ?_;refine T.region ?_;iterate 3 refine aA rfl rfl ?_
  refine z6 (yL (j:=x31) yF 7 hx32 Z Z Z Z) Z ?_;iterate 3 refine aA rfl rfl ?_
  refine zv (un (j:=x31) yF (⟨x32.fN,x32.fFirst,w64 (x32.fNext+1)⟩:wFr) 7 hx32 Z Z Z Z Z Z Z Z Z) ?_;refine aN Z ?_;refine T.region ?_;iterate 3 refine aA rfl rfl ?_
  refine TL.nil ?_;obtain rfl:=osi q14;exact⟨m12,Nat.lt_succ_self _,_,Gst.only [0,2,5,6] Z,(vn (env37 15) 0),y27,(w64 (s10.1+1),x39,(t26.set x31.toNat (⟨x32.fN,x32.fFirst,w64 (x32.fNext+1)⟩:wFr))),Z,i15⟩
 iterate 5 refine aC ?_
 refine oT (.nod [.sl 1 (List.map eNP x36.fKids),.sl 3 (List.map z8 x36.fItems),dN x36.fN]) (fun _ _=>zk (zH (j:=x31) yF 7 hx32 Z Z Z Z) (congrArg eOP (osi hq33))) ?_;iterate 6 refine aC ?_
 refine oT ((dN x32.fNext)) (fun _ _=>yL (j:=x31) yF 7 hx32 Z Z Z Z) ?_;refine oT (.nod [.sl 5 (List.map zj x38.fCells),dN x38.fEnd,dT x38.fHidden]) (fun _ _=>zp z8 hx38 Z Z Z Z Z) ?_;refine aC ?_;refine zi true ?_ (fun D hA env37 x j hj hD=>match j,hj,hD with|0,_,_=>Z|1,_,_=>Z|2,_,_=>Z|3,_,_=>Z|4,_,_=>Z|5,_,_=>Z|6,_,_=>Z|7,_,_=>Z|8,_,_=>Z|9,_,_=>Z|10,_,_=>Z|11,_,_=>Z|12,_,_=>Z|13,_,_=>Z|14,_,_=>Z|15,hj,_=>absurd Z hj|16,_,_=>Z|_+17,_,_=>Z) ?_
 ·intro D env37 hA;exact zK [(15,false)] ⟨hA.me,trivial⟩ (Want.plain Z) (qr [0,4,5] Z (qy hx39) Z Z Z (fun _=>Z)) (fun x=>Z) (fun x=>Z)
 refine aC ?_;exact trivial
noncomputable def vM (a0:tTr):Option (List row_Row):=
 bnd (yE a0) fun x1=>
 bnd ((mkc 40 x1:Option (List row_Row))) fun x2=>
 bnd (yE a0) fun x6=>
 bnd (xF a0 0 x6) fun x7=>
 bnd (yl x7.1 x7.2.1 x7.2.2 x2) fun x9=>
 some x9
theorem pP {a0:tTr} {res:(List row_Row)} (h0:vM a0=some res):zo X 100 [.agg [(eOP a0.fRoot)]] [] (fun x=>.val (vn x 0)) (fun x=>[.row (vn x 0) (List.map z8 res) 3 49]):=by
 unfold vM at h0;refine zb (X:=X) Z Tryz.func100 Z Z Tryz.ntmps100 Z Z ?_;refine aS ?_;refine z6 (zD Z Z) Z ?_;refine aA Z Z ?_;refine aN Z ?_;refine aS ?_;refine aA Z Z ?_;obtain⟨x1,hx1,h0⟩:=bS h0;refine z6 (zh fn79 (xA hx1) Z) Z ?_;obtain⟨x2,hx2,h0⟩:=bS h0;refine TL.op (qq z8 hx2 Z Z Z Z Z Z Z (fun _=>Z)) Z (fun v3=>?_);refine TL.op (OpR.alloc Z Z (fun _=>Z)) Z (fun p4=>?_);refine zv (OpR.store 1 Z Z Z Z Z Z Z Z) ?_;refine aN Z ?_;refine T.seq ?_;refine T.seq ?_;obtain⟨x6,hx6,h0⟩:=bS h0;obtain⟨x7,hx7,h0⟩:=bS h0;refine yA zV (fun env5=>[.agg [(eOP a0.fRoot)],.agg [(eOP a0.fRoot)],dN x6,.fn (.func 146) [] [dP (blk (vn (env5 3) 0)),dP (blk (vn (env5 3) 1)),dP (blk (vn (env5 3) 2))]]) (fun D env5=>[.row v3 (List.map z8 x2) 3 49,.var (blk p4) [.val v3] 163]++(bif D 3 then [.var (blk (vn (env5 3) 0)) [dN x7.1] 3] else [])++(bif D 3 then [.var (blk (vn (env5 3) 1)) [dN x7.2.1] 3] else [])++(bif D 3 then [.var (blk (vn (env5 3) 2)) [(eOP x7.2.2)] 25] else [])) [0,0,2,7] [2,3,12] _ (by decide +kernel) (by decide +kernel) (fun _=>Z) (fun _=>Z) ?_ (fun _=>Z) (fun _=>Z) ?_;rotate_left
 ·intro env5;show T X _ _ _;refine T.block ?_;obtain⟨x9,hx9,h0⟩:=bS h0;refine T.rangeN (A:=tx) (B:=tw) [3] [2,3,4,1,0] (.inl Z) Z Z Z Z Z fn146 Z Z (fun l8=>(rn hx9)) (fun _=>Z) (fun w10=>?_);show T X _ _ _;refine aS ?_;refine z6 (z7 1 Z Z Z Z) Z ?_;refine aA Z Z ?_;refine aN Z ?_;refine T.ret ?_;obtain rfl:=osi h0;exact rP [0] [2] [0] Z Z Z (.tuple #[(vn w10 0)]) (cT Z ResL.nil) Z Z Z Z
 iterate 2 refine aC ?_
 refine oT ((dN x6)) (fun _ _=>zh fn79 (xA hx6) Z) ?_;refine zi true ?_ (fun D hA env5 x j hj hD=>match j,hj,hD with|0,_,_=>Z|1,_,_=>Z|2,_,_=>Z|3,hj,_=>absurd Z hj|_+4,_,_=>Z) ?_
 ·intro D env5 hA;exact zK [(3,false)] ⟨hA.me,trivial⟩ (Want.plain Z) (OpR.call [] fn80 (vx hx7) Z Z Z (fun _=>Z)) (fun x=>Z) (fun x=>Z)
 exact trivial
noncomputable def vk.l1 (a0:grid_Grid) (a1:List Int) (a2:List Int) (s15:Int × (List row_Row)):Option (Lp (Int × (List row_Row)) (List row_Row)):=
 if s15.1<(a1.length:Int) then
 bnd (idx a1 s15.1) fun x24=>
 bnd (idx a2 s15.1) fun x26=>
 bnd (wJ a0 x26) fun x27=>
 bnd (idx s15.2 x24) fun x28=>
 some (Lp.next (w64 (s15.1+1),(s15.2.set x24.toNat x27.1)))
else
 some (Lp.done s15.2)
noncomputable def vk (a0:grid_Grid) (a1:List Int) (a2:List Int):Option (grid_Grid × Int):=
 bnd (yK a0) fun x3=>
 bnd (xD x3 a1) fun x4=>
 bnd (yK a0) fun x5=>
 bnd (xD x5 a2) fun x6=>
 bnd (if x4.2=true then
 if x6.2=true then
 bnd (yn x4.1 x6.1) fun x10=>
 some (!x10)
else
 some true
else
 some true:Option Bool) fun t7=>
 if t7=true then
 some ((⟨(⟨none⟩:tTr),false,0⟩:grid_Grid),1)
else
 bnd (vM a0.fRows) fun x12=>
 bnd (loop (vk.l1 a0 a1 a2) (0,x12):Option (List row_Row)) fun t14=>
 bnd (wY t14) fun x29=>
 some ((⟨x29,a0.fTail,a0.fEnd⟩:grid_Grid),0)
theorem order_Put_c {a0:grid_Grid} {a1:List Int} {a2:List Int} {res:grid_Grid × Int} (h0:vk a0 a1 a2=some res):zo X 40 [.agg [(eOP a0.fRows.fRoot),dT a0.fTail,dN a0.fEnd],.sl 1 (List.map (eI .i64) a1),.sl 1 (List.map (eI .i64) a2)] [] (fun x=>.tup [.agg [(eOP res.1.fRows.fRoot),dT res.1.fTail,dN res.1.fEnd],dN res.2]) (fun x=>[]):=by
 unfold vk at h0;refine zb (X:=X) Z Tryz.func40 Z Z Tryz.ntmps40 Z Z ?_;refine aS ?_;refine TL.op (xG Z Z (fun _=>Z)) Z (fun p1=>?_);refine TL.op (OpR.alloc Z Z (fun _=>Z)) Z (fun p2=>?_);refine aA Z Z ?_;refine aN Z ?_;refine aS ?_;refine z6 (z7 0 Z Z Z Z) Z ?_;obtain⟨x3,hx3,h0⟩:=bS h0;refine z6 (zh fn22 (yQ hx3) Z) Z ?_;refine aA Z Z ?_;obtain⟨x4,hx4,h0⟩:=bS h0;refine z6 (zh fn98 (pH hx4) Z) Z ?_;iterate 5 refine aA rfl rfl ?_
 refine aN Z ?_;refine aS ?_;refine z6 (z7 0 Z Z Z Z) Z ?_;obtain⟨x5,hx5,h0⟩:=bS h0;refine z6 (zh fn22 (yQ hx5) Z) Z ?_;refine aA Z Z ?_;obtain⟨x6,hx6,h0⟩:=bS h0;refine z6 (zh fn98 (pH hx6) Z) Z ?_;iterate 5 refine aA rfl rfl ?_
 refine aN Z ?_;refine T.seq ?_;refine T.seq ?_;obtain⟨t7,ht7,h0⟩:=bS h0;refine zA (fun S'=>S'=⟨[(40,(dT t7)),(7,(dN 0)),(6,(dP (blk p2))),(3,(dP (blk p1))),(2,.sl 1 (List.map (eI .i64) a2)),(1,.sl 1 (List.map (eI .i64) a1))],[.var (blk p1) [(eOP a0.fRows.fRoot),dT a0.fTail,dN a0.fEnd] 27,.var (blk p2) [(eOP none),dT false,dN 0] 27],69⟩) (fun _ h=>h) ?_ ?_
 ·refine T.region ?_;iterate 3 refine aA rfl rfl ?_
  rcases z9 ht7 with ⟨c8,ht7⟩|⟨c8,ht7⟩;rotate_left
  ·refine TL.off Z Z Z Z (zR (eN c8)) Z Z ?_;refine TL.off Z Z Z Z (zR (eN c8)) Z Z ?_;refine z6 (zt Z (zR (eN c8)) Z) Z ?_;refine aA Z Z ?_;refine TL.off Z Z Z Z Z Z Z ?_;refine TL.off Z Z Z Z Z Z Z ?_;refine TL.off Z Z Z Z Z Z Z ?_;refine TL.off Z Z Z Z Z Z Z ?_;refine z6 (zt Z Z Z) Z ?_;refine TL.nil ?_;obtain rfl:=osi ht7;exact⟨_,Gst.only [1,2,3,6,7,40] Z,Z⟩
  refine TL.on Z Z Z Z (zQ (c8)) ?_;refine aA Z Z ?_;refine TL.on Z Z Z Z (zQ (c8)) ?_;refine aA Z Z ?_;refine z6 (zx Z (zQ (c8)) Z) Z ?_;refine aA Z Z ?_;rcases z9 ht7 with ⟨c9,ht7⟩|⟨c9,ht7⟩;rotate_left
  ·refine TL.off Z Z Z Z (zR (eN c9)) Z Z ?_;refine TL.off Z Z Z Z (zR (eN c9)) Z Z ?_;refine TL.off Z Z Z Z (zR (eN c9)) Z Z ?_;refine TL.off Z Z Z Z (zR (eN c9)) Z Z ?_;refine z6 (zt Z (zR (eN c9)) Z) Z ?_;refine TL.nil ?_;obtain rfl:=osi ht7;exact⟨_,Gst.only [1,2,3,6,7,40] Z,Z⟩
  refine TL.on Z Z Z Z (zQ (c9)) ?_;refine aA Z Z ?_;refine TL.on Z Z Z Z (zQ (c9)) ?_;refine aA Z Z ?_;refine TL.on Z Z Z Z (zQ (c9)) ?_;obtain⟨x10,hx10,ht7⟩:=bS ht7;refine z6 (zh fn99 (ro hx10) Z) Z ?_;refine TL.on Z Z Z Z (zQ (c9)) ?_;refine aA Z Z ?_;refine z6 (zx Z (zQ (c9)) Z) Z ?_;refine TL.nil ?_;obtain rfl:=osi ht7;exact⟨_,Gst.only [1,2,3,6,7,40] Z,Z⟩
 rintro _ rfl;show T X _ _ _;rcases z9 h0 with ⟨c11,h0⟩|⟨c11,h0⟩
 ·refine zf Z (c11) ?_;refine aS ?_;refine z6 (OpR.build Z Z Z Z Z) Z ?_;refine zv (OpR.store 1 Z Z Z Z Z Z Z Z) ?_;refine aA Z Z ?_;refine aN Z ?_;refine T.ret ?_;obtain rfl:=osi h0;exact rP [] [6,7] [1] Z Z Z undef (cV 0 Z Z Z Z (cT Z ResL.nil)) Z Z Z Z
 refine ze Z (eN c11) ?_;refine aK Z ?_;refine aS ?_;refine aA Z Z ?_;refine z6 (z7 0 Z Z Z Z) Z ?_;obtain⟨x12,hx12,h0⟩:=bS h0;refine TL.op (OpR.call [] fn100 (pP hx12) Z Z Z (fun _=>Z)) Z (fun w13=>?_);refine aA Z Z ?_;refine aN Z ?_;refine T.seq ?_;refine aS ?_;refine aA Z Z ?_;refine z6 (zk (OpR.pure Z) (xn (w9 _ _))) Z ?_;refine aA Z Z ?_;refine aN Z ?_;obtain⟨t14,ht14,h0⟩:=bS h0;refine zA (fun S'=>S'=⟨[(12,.val (vn w13 0)),(7,(dN 0)),(6,(dP (blk p2))),(3,(dP (blk p1)))],[.var (blk p1) [(eOP a0.fRows.fRoot),dT a0.fTail,dN a0.fEnd] 27,.var (blk p2) [(eOP none),dT false,dN 0] 27,.row (vn w13 0) (List.map z8 t14) 3 49],69⟩) (fun _ h=>h) ?_ ?_;rotate_left
 ·rintro _ rfl;show T X _ _ _;refine aS ?_;refine aA Z Z ?_;refine TL.ghost (zC 2 Z Z (ReS.cons (Re.base .all) (ReS.refl _)) (ReO.same (ReO.same (ReO.same ReO.nil)))) ?_;obtain⟨x29,hx29,h0⟩:=bS h0;refine z6 (zh fn101 (tq hx29) Z) Z ?_;refine aA Z Z ?_;refine zv (OpR.store 0 Z Z Z Z Z Z Z Z) ?_;refine aN Z ?_;refine aS ?_;refine z6 (z7 0 Z Z Z Z) Z ?_;refine zv (OpR.store 1 Z Z Z Z Z Z Z Z) ?_;refine aA Z Z ?_;refine aN Z ?_;refine T.ret ?_;obtain rfl:=osi h0;exact rP [] [6,7] [1] Z Z Z undef (cV 0 Z Z Z Z (cT Z ResL.nil)) Z Z Z Z
 refine T.block ?_;obtain⟨n16,n21⟩:=zy ht14;refine T.loop (fun n S'=>∃ S'',Gst S' S''∧∃ s15:Int × (List row_Row),S''=⟨[(47,(dN s15.1)),(46,(dN (a1.length:Int))),(45,.sl 1 (List.map (eI .i64) a1)),(12,.val (vn w13 0)),(7,(dN 0)),(6,(dP (blk p2))),(3,(dP (blk p1))),(2,.sl 1 (List.map (eI .i64) a2))],[.var (blk p1) [(eOP a0.fRows.fRoot),dT a0.fTail,dN a0.fEnd] 27,.var (blk p2) [(eOP none),dT false,dN 0] 27,.row (vn w13 0) (List.map z8 s15.2) 3 49],69⟩∧wo (vk.l1 a0 a1 a2) n s15=some t14) n16 ?_ ?_
 ·exact⟨_,Gst.only [2,3,6,7,12,45,46,47] Z,(0,x12),Z,n21⟩
 rintro n16 _ ⟨_,g,s15,rfl,i20⟩;refine T.ghost g ?_;obtain⟨m17,q18,rfl,q19,i20⟩:=zz i20;unfold vk.l1 at q19;refine aS ?_;refine aA Z Z ?_;refine aN Z ?_;refine T.seq ?_;rcases z9 q19 with ⟨c23,q19⟩|⟨c23,q19⟩;rotate_left
 ·refine ze Z (eF c23) ?_;refine T.exit ?_;obtain rfl:=osi q19;obtain rfl:_=_:=i20;exact⟨_,Gst.only [3,6,7,12] Z,Z⟩
 refine zf Z (eT c23) ?_;refine aK Z ?_;refine T.seq ?_;refine T.block ?_;refine aS ?_;refine aA Z Z ?_;obtain⟨x24,hx24,q19⟩:=bS q19;refine z6 (zp (eI .i64) hx24 Z Z Z Z Z) Z ?_;iterate 3 refine aA rfl rfl ?_
 refine aN Z ?_;obtain⟨x26,hx26,q19⟩:=bS q19;obtain⟨x27,hx27,q19⟩:=bS q19;obtain⟨x28,hx28,q19⟩:=bS q19;refine yA zV (fun env25=>[.val (vn w13 0),dN x24,.agg [(eOP a0.fRows.fRoot),dT a0.fTail,dN a0.fEnd],.sl 1 (List.map (eI .i64) a2),dN s15.1,.nod [dN x26],dN x26,.tup [.agg [.sl 5 (List.map zj x27.1.fCells),dN x27.1.fEnd,dT x27.1.fHidden],dT x27.2],.tup [.agg [.sl 5 (List.map zj x27.1.fCells),dN x27.1.fEnd,dT x27.1.fHidden],dT x27.2],.agg [.sl 5 (List.map zj x27.1.fCells),dN x27.1.fEnd,dT x27.1.fHidden],dT x27.2,.val (.pointer (some ⟨blk (vn w13 0),x24.toNat*3,none⟩)),.dead]) (fun D env25=>[.var (blk p1) [(eOP a0.fRows.fRoot),dT a0.fTail,dN a0.fEnd] 27,.var (blk p2) [(eOP none),dT false,dN 0] 27,(bif D 12 then .row (vn w13 0) (List.map z8 (s15.2.set x24.toNat x27.1)) 3 49 else .row (vn w13 0) (List.map z8 s15.2) 3 49)]) [0,0,0,0,0,24,56,124,252,508,508,1023,3071] [2,3,6,7,12,45,46,47] _ (by decide +kernel) (by decide +kernel) (fun _=>Z) (fun _=>Z) ?_ (fun _=>Z) (fun _=>Z) ?_;rotate_left
 ·intro env25;show T X _ _ _;refine T.region ?_;iterate 2 refine aA rfl rfl ?_
  refine TL.nil ?_;obtain rfl:=osi q19;exact⟨m17,Nat.lt_succ_self _,_,Gst.only [2,3,6,7,12,45,46,47] Z,(w64 (s15.1+1),(s15.2.set x24.toNat x27.1)),Z,i20⟩
 iterate 2 refine aC ?_
 refine oT (.agg [(eOP a0.fRows.fRoot),dT a0.fTail,dN a0.fEnd]) (fun _ _=>z7 0 Z Z Z Z) ?_;iterate 2 refine aC ?_
 refine oT (.nod [dN x26]) (fun _ _=>zp (eI .i64) hx26 Z Z Z Z Z) ?_;refine aC ?_;refine oT (.tup [.agg [.sl 5 (List.map zj x27.1.fCells),dN x27.1.fEnd,dT x27.1.fHidden],dT x27.2]) (fun _ _=>zh fn24 (uc hx27) Z) ?_;iterate 3 refine aC ?_
 refine zi true ?_ (fun _ _ _ _ _ _ _=>Z) ?_
 ·intro D env25 hA;have e12:D 12=false:=hA.no 12 _ rfl rfl;exact zK [(12,false)] ⟨e12,trivial⟩ (Want.plain Z) (zO z8 2 hx28 Z Z Z Z Z Z Z) (fun x=>Z) (fun x=>Z)
 refine zi true ?_ (fun _ _ _ _ _ _ _=>Z) ?_
 ·intro D env25 hA;exact zK [(12,false)] ⟨hA.me,trivial⟩ (Want.plain Z) (yD (j:=x24) z8 x27.1 2 hx28 Z Z Z Z Z Z Z Z Z) (fun x=>Z) (fun x=>Z)
 exact trivial
noncomputable def uI (a0:grid_Grid) (a1:List order_By) (a2:List UInt8):Option (grid_Grid × Int):=
 bnd (uD a1) fun x2=>
 if x2=true then
 bnd (wU a0) fun x5=>
 bnd (xW a0 a1 a2) fun x6=>
 bnd (vk a0 x5 x6) fun x7=>
 some (x7.1,x7.2)
else
 some ((⟨(⟨none⟩:tTr),false,0⟩:grid_Grid),1)
theorem qt {a0:grid_Grid} {a1:List order_By} {a2:List UInt8} {b0:Nat} {v1:Value} {res:grid_Grid × Int} (h0:uI a0 a1 a2=some res):zo X 50 [.agg [(eOP a0.fRows.fRoot),dT a0.fTail,dN a0.fEnd],dP b0,.sl 2 (List.map zg a1)] [.var b0 [.val v1] 264,.row v1 (lB a2) 1 5] (fun x=>.tup [.agg [(eOP res.1.fRows.fRoot),dT res.1.fTail,dN res.1.fEnd],dN res.2]) (fun x=>[.var b0 [.val v1] 264,.row v1 (lB a2) 1 5]):=by
 unfold uI at h0;refine zb (X:=X) Z Tryz.func50 Z Z Tryz.ntmps50 Z Z ?_;refine aS ?_;refine z6 (zD Z Z) Z ?_;refine TL.op (OpR.alloc Z Z (fun _=>Z)) Z (fun p1=>?_);refine aA Z Z ?_;refine aN Z ?_;refine T.seq ?_;refine aS ?_;refine aA Z Z ?_;obtain⟨x2,hx2,h0⟩:=bS h0;refine z6 (zh fn56 (rF hx2) Z) Z ?_;refine aA Z Z ?_;refine aN Z ?_;rcases z9 h0 with ⟨c3,h0⟩|⟨c3,h0⟩;rotate_left
 ·refine zf Z (zR (eN c3)) ?_;refine aS ?_;refine z6 (OpR.build Z Z Z Z Z) Z ?_;refine zv (OpR.store 2 Z Z Z Z Z Z Z Z) ?_;refine aA Z Z ?_;refine aN Z ?_;refine T.ret ?_;obtain rfl:=osi h0;exact rO [0,1] [6,7] Z undef (cV 2 Z Z Z Z (cT Z ResL.nil)) Z Z Z Z
 refine ze Z (zQ (c3)) ?_;refine aK Z ?_;refine T.seq ?_;obtain⟨x5,hx5,h0⟩:=bS h0;obtain⟨x6,hx6,h0⟩:=bS h0;obtain⟨x7,hx7,h0⟩:=bS h0;refine yA zV (fun env4=>[.agg [(eOP a0.fRows.fRoot),dT a0.fTail,dN a0.fEnd],.agg [(eOP a0.fRows.fRoot),dT a0.fTail,dN a0.fEnd],.sl 1 (List.map (eI .i64) x5),.agg [(eOP a0.fRows.fRoot),dT a0.fTail,dN a0.fEnd],dP b0,.sl 2 (List.map zg a1),.sl 1 (List.map (eI .i64) x6),.tup [.agg [(eOP x7.1.fRows.fRoot),dT x7.1.fTail,dN x7.1.fEnd],dN x7.2],.agg [(eOP x7.1.fRows.fRoot),dT x7.1.fTail,dN x7.1.fEnd],dN x7.2,.dead,dN x7.2]) (fun D env4=>[.var b0 [.val v1] 264,.row v1 (lB a2) 1 5,(bif D 10 then .var (blk p1) [(eOP x7.1.fRows.fRoot),dT x7.1.fTail,dN x7.1.fEnd] 27 else .var (blk p1) [(eOP none),dT false,dN 0] 27)]) [0,0,2,0,0,0,62,127,255,255,1023,2047] [6,7] _ (by decide +kernel) (by decide +kernel) (fun _=>Z) (fun _=>Z) ?_ (fun _=>Z) (fun _=>Z) ?_;rotate_left
 ·intro env4;show T X _ _ _;refine T.ret ?_;obtain rfl:=osi h0;exact rO [0,1] [6,7] Z undef (cV 2 Z Z Z Z (cT Z ResL.nil)) Z Z Z Z
 iterate 2 refine aC ?_
 refine oT (.sl 1 (List.map (eI .i64) x5)) (fun _ _=>zh fn51 (sF hx5) Z) ?_;iterate 3 refine aC ?_
 refine zi true ?_ (fun _ _ _ _ _ _ _=>Z) ?_
 ·intro D env4 hA;have e10:D 10=false:=hA.no 10 _ rfl rfl;exact zK [(10,false)] ⟨e10,trivial⟩ (Want.plain Z) (OpR.call [0,1] fn59 (order_Perm_c hx6) Z Z Z (fun _=>Z)) (fun x=>Z) (fun x=>Z)
 refine oT (.tup [.agg [(eOP x7.1.fRows.fRoot),dT x7.1.fTail,dN x7.1.fEnd],dN x7.2]) (fun _ _=>zh fn40 (order_Put_c hx7) Z) ?_;iterate 2 refine aC ?_
 refine zi true ?_ (fun _ _ _ _ _ _ _=>Z) ?_
 ·intro D env4 hA;exact zK [(10,false)] ⟨hA.me,trivial⟩ (Want.plain Z) (OpR.store 2 Z Z Z Z Z Z Z Z) (fun x=>Z) (fun x=>Z)
 refine aC ?_;exact trivial
noncomputable def sr (a0:UInt8):Option Int:=
 if (a0.toNat:Int)=44 then
 some 1
else
 if (a0.toNat:Int)=34 then
 some 2
else
 if (a0.toNat:Int)=13 then
 some 3
else
 if (a0.toNat:Int)=10 then
 some 4
else
 some 0
theorem rE {a0:UInt8} {res:Int} (h0:sr a0=some res):zo X 260 [.val (.int .u8 (a0.toNat:Int))] [] (fun x=>(dN res)) (fun x=>[]):=by
 unfold sr at h0;refine zb (X:=X) Z Tryz.func260 Z Z Tryz.ntmps260 Z Z ?_;refine aS ?_;refine aA Z Z ?_;refine aN Z ?_;refine T.seq ?_;refine aS ?_;refine aA Z Z ?_;refine aN Z ?_;refine T.block ?_;refine aS ?_;iterate 2 refine aA rfl rfl ?_
 refine aN Z ?_;rcases z9 h0 with ⟨c1,h0⟩|⟨c1,h0⟩
 ·refine zf Z (beq_iff_eq.2 c1) ?_;refine aS ?_;refine aA Z Z ?_;refine aN Z ?_;refine T.ret ?_;obtain rfl:=osi h0;exact rO [] [2] Z undef (cT Z ResL.nil) Z Z Z Z
 refine ze Z (beq_eq_false_iff_ne.2 c1) ?_;refine aS ?_;iterate 2 refine aA rfl rfl ?_
 refine aN Z ?_;rcases z9 h0 with ⟨c2,h0⟩|⟨c2,h0⟩
 ·refine zf Z (beq_iff_eq.2 c2) ?_;refine aS ?_;refine aA Z Z ?_;refine aN Z ?_;refine T.ret ?_;obtain rfl:=osi h0;exact rO [] [2] Z undef (cT Z ResL.nil) Z Z Z Z
 refine ze Z (beq_eq_false_iff_ne.2 c2) ?_;refine aS ?_;iterate 2 refine aA rfl rfl ?_
 refine aN Z ?_;rcases z9 h0 with ⟨c3,h0⟩|⟨c3,h0⟩
 ·refine zf Z (beq_iff_eq.2 c3) ?_;refine aS ?_;refine aA Z Z ?_;refine aN Z ?_;refine T.ret ?_;obtain rfl:=osi h0;exact rO [] [2] Z undef (cT Z ResL.nil) Z Z Z Z
 refine ze Z (beq_eq_false_iff_ne.2 c3) ?_;refine aS ?_;iterate 2 refine aA rfl rfl ?_
 refine aN Z ?_;rcases z9 h0 with ⟨c4,h0⟩|⟨c4,h0⟩
 ·refine zf Z (beq_iff_eq.2 c4) ?_;refine aS ?_;refine aA Z Z ?_;refine aN Z ?_;refine T.ret ?_;obtain rfl:=osi h0;exact rO [] [2] Z undef (cT Z ResL.nil) Z Z Z Z
 refine ze Z (beq_eq_false_iff_ne.2 c4) ?_;refine aK Z ?_;refine aS ?_;refine aA Z Z ?_;refine aN Z ?_;refine T.ret ?_;obtain rfl:=osi h0;exact rO [] [2] Z undef (cT Z ResL.nil) Z Z Z Z
noncomputable def vZ.l1 (a0:List UInt8) (s3:Int):Option (Lp Int (Ex Unit Bool)):=
 if s3<(a0.length:Int) then
 bnd (idx a0 s3) fun x12=>
 bnd (sr x12) fun x13=>
 if x13=0 then
 some (Lp.next (w64 (s3+1)))
else
 some (Lp.done (Ex.ret true))
else
 some (Lp.done (Ex.brk ()))
noncomputable def vZ (a0:List UInt8):Option Bool:=
 bnd (loop (vZ.l1 a0) 0:Option (Ex Unit Bool)) fun t1=>match t1 with
| .brk u2=>
 some false
| .ret u2=>some u2
theorem pG {a0:List UInt8} {res:Bool} (h0:vZ a0=some res):zo X 259 [.sl 1 (lB a0)] [] (fun x=>(dT res)) (fun x=>[]):=by
 unfold vZ at h0;refine zb (X:=X) Z Tryz.func259 Z Z Tryz.ntmps259 Z Z ?_;refine aS ?_;refine aA Z Z ?_;refine aN Z ?_;refine T.seq ?_;refine aS ?_;refine aA Z Z ?_;refine z6 (zk (OpR.pure Z) (xn (w9 _ _))) Z ?_;refine aA Z Z ?_;refine aN Z ?_;obtain⟨t1,ht1,h0⟩:=bS h0;refine zA (fun S'=>∃ u2,t1=Ex.brk u2∧S'=⟨[(2,(dT false))],[],15⟩) (fun _ h=>h) ?_ ?_;rotate_left
 ·rintro _ ⟨u2,rfl,rfl⟩;show T X _ _ _;refine aS ?_;refine aA Z Z ?_;refine aN Z ?_;refine T.ret ?_;obtain rfl:=osi h0;exact rO [] [2] Z undef (cT Z ResL.nil) Z Z Z Z
 refine T.block ?_;obtain⟨n4,n9⟩:=zy ht1;refine T.loop (fun n S'=>∃ S'',Gst S' S''∧∃ s3:Int,S''=⟨[(7,(dN s3)),(6,(dN (a0.length:Int))),(5,.sl 1 (lB a0)),(2,(dT false))],[],15⟩∧wo (vZ.l1 a0) n s3=some t1) n4 ?_ ?_
 ·exact⟨_,Gst.only [2,5,6,7] Z,0,Z,n9⟩
 rintro n4 _ ⟨_,g,s3,rfl,i8⟩;refine T.ghost g ?_;obtain⟨m5,q6,rfl,q7,i8⟩:=zz i8;unfold vZ.l1 at q7;refine aS ?_;refine aA Z Z ?_;refine aN Z ?_;refine T.seq ?_;rcases z9 q7 with ⟨c11,q7⟩|⟨c11,q7⟩;rotate_left
 ·refine ze Z (eF c11) ?_;refine T.exit ?_;obtain rfl:=osi q7;obtain rfl:_=_:=i8;exact⟨_,Gst.only [2] Z,_,Z,Z⟩
 refine zf Z (eT c11) ?_;refine aK Z ?_;refine T.seq ?_;refine T.block ?_;refine aS ?_;obtain⟨x12,hx12,q7⟩:=bS q7;refine z6 (zp ww hx12 Z Z Z Z Z) Z ?_;iterate 2 refine aA rfl rfl ?_
 refine aN Z ?_;refine aS ?_;refine aA Z Z ?_;obtain⟨x13,hx13,q7⟩:=bS q7;refine z6 (zh fn260 (rE hx13) Z) Z ?_;refine aA Z Z ?_;refine aN Z ?_;rcases z9 q7 with ⟨c14,q7⟩|⟨c14,q7⟩
 ·refine ze Z (zQ (beq_iff_eq.2 c14)) ?_;refine aK Z ?_;refine T.region ?_;iterate 2 refine aA rfl rfl ?_
  refine TL.nil ?_;obtain rfl:=osi q7;exact⟨m5,Nat.lt_succ_self _,_,Gst.only [2,5,6,7] Z,w64 (s3+1),Z,i8⟩
 refine zf Z (zR (beq_eq_false_iff_ne.2 c14)) ?_;refine aS ?_;refine aA Z Z ?_;refine aN Z ?_;refine T.ret ?_;obtain rfl:=osi q7;obtain rfl:_=_:=i8;obtain rfl:=osi h0;exact rO [] [2] Z undef (cT Z ResL.nil) Z Z Z Z
noncomputable def u0.l1 (a0:List UInt8) (s2:Int × Int):Option (Lp (Int × Int) Int):=
 if s2.2<(a0.length:Int) then
 bnd (idx a0 s2.2) fun x11=>
 bnd (sr x11) fun x12=>
 bnd (if x12=2 then
 some (w64 (s2.1+1))
else
 some s2.1:Option Int) fun t13=>
 some (Lp.next (t13,w64 (s2.2+1)))
else
 some (Lp.done s2.1)
noncomputable def u0 (a0:List UInt8):Option Int:=
 bnd (loop (u0.l1 a0) (0,0):Option Int) fun t1=>
 some t1
theorem quote_quotes_c {a0:List UInt8} {res:Int} (h0:u0 a0=some res):zo X 273 [.sl 1 (lB a0)] [] (fun x=>(dN res)) (fun x=>[]):=by
 unfold u0 at h0;refine zb (X:=X) Z Tryz.func273 Z Z Tryz.ntmps273 Z Z ?_;refine aS ?_;refine aA Z Z ?_;refine aN Z ?_;refine aS ?_;refine aA Z Z ?_;refine aN Z ?_;refine T.seq ?_;refine aS ?_;refine aA Z Z ?_;refine z6 (zk (OpR.pure Z) (xn (w9 _ _))) Z ?_;refine aA Z Z ?_;refine aN Z ?_;obtain⟨t1,ht1,h0⟩:=bS h0;refine zA (fun S'=>S'=⟨[(3,(dN t1)),(2,(dN 0))],[],19⟩) (fun _ h=>h) ?_ ?_;rotate_left
 ·rintro _ rfl;show T X _ _ _;refine aS ?_;iterate 2 refine aA rfl rfl ?_
  refine aN Z ?_;refine T.ret ?_;obtain rfl:=osi h0;exact rO [] [2] Z undef (cT Z ResL.nil) Z Z Z Z
 refine T.block ?_;obtain⟨n3,n8⟩:=zy ht1;refine T.loop (fun n S'=>∃ S'',Gst S' S''∧∃ s2:Int × Int,S''=⟨[(8,(dN s2.2)),(7,(dN (a0.length:Int))),(6,.sl 1 (lB a0)),(3,(dN s2.1)),(2,(dN 0))],[],19⟩∧wo (u0.l1 a0) n s2=some t1) n3 ?_ ?_
 ·exact⟨_,Gst.only [2,3,6,7,8] Z,(0,0),Z,n8⟩
 rintro n3 _ ⟨_,g,s2,rfl,i7⟩;refine T.ghost g ?_;obtain⟨m4,q5,rfl,q6,i7⟩:=zz i7;unfold u0.l1 at q6;refine aS ?_;refine aA Z Z ?_;refine aN Z ?_;refine T.seq ?_;rcases z9 q6 with ⟨c10,q6⟩|⟨c10,q6⟩;rotate_left
 ·refine ze Z (eF c10) ?_;refine T.exit ?_;obtain rfl:=osi q6;obtain rfl:_=_:=i7;exact⟨_,Gst.only [2,3] Z,Z⟩
 refine zf Z (eT c10) ?_;refine aK Z ?_;refine T.seq ?_;refine T.block ?_;refine aS ?_;obtain⟨x11,hx11,q6⟩:=bS q6;refine z6 (zp ww hx11 Z Z Z Z Z) Z ?_;iterate 2 refine aA rfl rfl ?_
 refine aN Z ?_;refine aS ?_;refine aA Z Z ?_;obtain⟨x12,hx12,q6⟩:=bS q6;refine z6 (zh fn260 (rE hx12) Z) Z ?_;refine aA Z Z ?_;refine aN Z ?_;obtain⟨t13,ht13,q6⟩:=bS q6;refine zA (fun S'=>S'=⟨[(8,(dN s2.2)),(7,(dN (a0.length:Int))),(6,.sl 1 (lB a0)),(3,(dN t13)),(2,(dN 0))],[],19⟩) (fun _ h=>h) ?_ ?_;rotate_left
 ·rintro _ rfl;show T X _ _ _;refine T.region ?_;iterate 2 refine aA rfl rfl ?_
  refine TL.nil ?_;obtain rfl:=osi q6;exact⟨m4,Nat.lt_succ_self _,_,Gst.only [2,3,6,7,8] Z,(t13,w64 (s2.2+1)),Z,i7⟩
 rcases z9 ht13 with ⟨c14,ht13⟩|⟨c14,ht13⟩;rotate_left
 ·refine ze Z (beq_eq_false_iff_ne.2 c14) ?_;refine T.skip ?_;obtain rfl:=osi ht13;exact⟨_,Gst.only [2,3,6,7,8] Z,Z⟩
 refine zf Z (beq_iff_eq.2 c14) ?_;refine T.region ?_;iterate 3 refine aA rfl rfl ?_
 refine TL.nil ?_;obtain rfl:=osi ht13;exact⟨_,Gst.only [2,3,6,7,8] Z,Z⟩
noncomputable def pg (a0:List UInt8):Option Int:=
 bnd (vZ a0) fun x1=>
 if x1=true then
 bnd (u0 a0) fun x3=>
 some (w64 ((w64 ((a0.length:Int)+x3))+2))
else
 some (a0.length:Int)
theorem quote_Width_c {a0:List UInt8} {res:Int} (h0:pg a0=some res):zo X 258 [.sl 1 (lB a0)] [] (fun x=>(dN res)) (fun x=>[]):=by
 unfold pg at h0;refine zb (X:=X) Z Tryz.func258 Z Z Tryz.ntmps258 Z Z ?_;refine aS ?_;refine aA Z Z ?_;refine aN Z ?_;refine T.seq ?_;refine aS ?_;refine aA Z Z ?_;obtain⟨x1,hx1,h0⟩:=bS h0;refine z6 (zh fn259 (pG hx1) Z) Z ?_;refine aA Z Z ?_;refine aN Z ?_;rcases z9 h0 with ⟨c2,h0⟩|⟨c2,h0⟩;rotate_left
 ·refine zf Z (zR (eN c2)) ?_;refine aS ?_;refine aA Z Z ?_;refine z6 (zk (OpR.pure Z) (xn (w9 _ _))) Z ?_;refine aA Z Z ?_;refine aN Z ?_;refine T.ret ?_;obtain rfl:=osi h0;exact rO [] [2] Z undef (cT Z ResL.nil) Z Z Z Z
 refine ze Z (zQ (c2)) ?_;refine aK Z ?_;refine aS ?_;refine aA Z Z ?_;refine z6 (zk (OpR.pure Z) (xn (w9 _ _))) Z ?_;refine aA Z Z ?_;obtain⟨x3,hx3,h0⟩:=bS h0;refine z6 (zh fn273 (quote_quotes_c hx3) Z) Z ?_;iterate 3 refine aA rfl rfl ?_
 refine aN Z ?_;refine T.ret ?_;obtain rfl:=osi h0;exact rO [] [2] Z undef (cT Z ResL.nil) Z Z Z Z
noncomputable def sj.l1 (a0:List UInt8) (s11:Int × (List UInt8)):Option (Lp (Int × (List UInt8)) (List UInt8)):=
 if s11.1<(a0.length:Int) then
 bnd (idx a0 s11.1) fun x20=>
 bnd (sr x20) fun x21=>
 bnd (if x21=2 then
 bnd (app 1 s11.2 [x20]) fun x25=>
 some x25
else
 some s11.2:Option (List UInt8)) fun t22=>
 bnd (app 1 t22 [x20]) fun x27=>
 some (Lp.next (w64 (s11.1+1),x27))
else
 some (Lp.done s11.2)
noncomputable def sj (a0:List UInt8):Option (List UInt8):=
 bnd (pg a0) fun x1=>
 bnd ((mkc 1 x1:Option (List UInt8))) fun x2=>
 bnd (vZ a0) fun x4=>
 if x4=true then
 bnd (app 1 x2 [34]) fun x6=>
 bnd (loop (sj.l1 a0) (0,x6):Option (List UInt8)) fun t8=>
 bnd (app 1 t8 [34]) fun x29=>
 some x29
else
 bnd (app 1 x2 a0) fun x31=>
 some x31
theorem quote_Put_c {a0:List UInt8} {res:(List UInt8)} (h0:sj a0=some res):zo X 230 [.sl 1 (lB a0)] [] (fun x=>.sl 1 (lB res)) (fun x=>[]):=by
 unfold sj at h0;refine zb (X:=X) Z Tryz.func230 Z Z Tryz.ntmps230 Z Z ?_;refine aS ?_;refine aA Z Z ?_;refine aN Z ?_;refine aS ?_;refine aA Z Z ?_;obtain⟨x1,hx1,h0⟩:=bS h0;refine z6 (zh fn258 (quote_Width_c hx1) Z) Z ?_;obtain⟨x2,hx2,h0⟩:=bS h0;refine TL.op (qq ww hx2 Z Z Z Z Z Z Z (fun _=>Z)) Z (fun v3=>?_);refine aA Z Z ?_;refine aN Z ?_;refine T.seq ?_;refine aS ?_;refine aA Z Z ?_;obtain⟨x4,hx4,h0⟩:=bS h0;refine z6 (zh fn259 (pG hx4) Z) Z ?_;refine aA Z Z ?_;refine aN Z ?_;rcases z9 h0 with ⟨c5,h0⟩|⟨c5,h0⟩;rotate_left
 ·refine zf Z (zR (eN c5)) ?_;refine aS ?_;iterate 2 refine aA rfl rfl ?_
  obtain⟨x31,hx31,h0⟩:=bS h0;refine TL.op (zM (m:=a0) ww 0 hx31 Z Z Z Z Z Z Z Z Z (fun _=>Z)) Z (fun v32=>?_);refine aA Z Z ?_;refine aN Z ?_;refine T.ret ?_;obtain rfl:=osi h0;exact zE (ks:=[]) (Gst.trans (Gst.only [2] Z) (Gst.trans (zC 0 Z Z (ReS.cons (Re.base .all) ReS.nil) (ReO.same ReO.nil)) (Gst.pick [] Z Z))) undef (cT Z ResL.nil) Z Z Z Z
 refine ze Z (zQ (c5)) ?_;refine aK Z ?_;refine aS ?_;refine aA Z Z ?_;refine z6 (yN Z Z Z Z Z Z Z) Z ?_;obtain⟨x6,hx6,h0⟩:=bS h0;refine TL.op (zM (m:=[34]) ww 0 hx6 Z Z Z Z Z Z Z Z Z (fun _=>Z)) Z (fun v7=>?_);refine aA Z Z ?_;refine aN Z ?_;refine T.seq ?_;refine aS ?_;refine aA Z Z ?_;refine z6 (zk (OpR.pure Z) (xn (w9 _ _))) Z ?_;refine aA Z Z ?_;refine aN Z ?_;obtain⟨t8,ht8,h0⟩:=bS h0;refine zA (fun S'=>∃ y9:Value,S'=⟨[(3,.val y9),(2,.val (.slice none 0 0))],[.row y9 (lB t8) 1 5],39⟩) (fun _ h=>h) ?_ ?_;rotate_left
 ·rintro _ ⟨y9,rfl⟩;show T X _ _ _;refine aS ?_;refine aA Z Z ?_;refine z6 (yN Z Z Z Z Z Z Z) Z ?_;obtain⟨x29,hx29,h0⟩:=bS h0;refine TL.op (zM (m:=[34]) ww 0 hx29 Z Z Z Z Z Z Z Z Z (fun _=>Z)) Z (fun v30=>?_);refine aA Z Z ?_;refine aN Z ?_;refine T.ret ?_;obtain rfl:=osi h0;exact zE (ks:=[]) (Gst.trans (Gst.only [2] Z) (Gst.trans (zC 0 Z Z (ReS.cons (Re.base .all) ReS.nil) (ReO.same ReO.nil)) (Gst.pick [] Z Z))) undef (cT Z ResL.nil) Z Z Z Z
 refine T.block ?_;obtain⟨n12,n17⟩:=zy ht8;refine T.loop (fun n S'=>∃ S'',Gst S' S''∧∃ y10:Value,∃ s11:Int × (List UInt8),S''=⟨[(20,(dN s11.1)),(19,(dN (a0.length:Int))),(18,.sl 1 (lB a0)),(3,.val y10),(2,.val (.slice none 0 0))],[.row y10 (lB s11.2) 1 5],39⟩∧wo (sj.l1 a0) n s11=some t8) n12 ?_ ?_
 ·exact⟨_,Gst.only [2,3,18,19,20] Z,v7,(0,x6),Z,n17⟩
 rintro n12 _ ⟨_,g,y10,s11,rfl,i16⟩;refine T.ghost g ?_;obtain⟨m13,q14,rfl,q15,i16⟩:=zz i16;unfold sj.l1 at q15;refine aS ?_;refine aA Z Z ?_;refine aN Z ?_;refine T.seq ?_;rcases z9 q15 with ⟨c19,q15⟩|⟨c19,q15⟩;rotate_left
 ·refine ze Z (eF c19) ?_;refine T.exit ?_;obtain rfl:=osi q15;obtain rfl:_=_:=i16;exact⟨_,Gst.only [2,3] Z,y10,Z⟩
 refine zf Z (eT c19) ?_;refine aK Z ?_;refine T.seq ?_;refine T.block ?_;refine aS ?_;obtain⟨x20,hx20,q15⟩:=bS q15;refine z6 (zp ww hx20 Z Z Z Z Z) Z ?_;iterate 2 refine aA rfl rfl ?_
 refine aN Z ?_;refine T.seq ?_;refine aS ?_;refine aA Z Z ?_;obtain⟨x21,hx21,q15⟩:=bS q15;refine z6 (zh fn260 (rE hx21) Z) Z ?_;refine aA Z Z ?_;refine aN Z ?_;obtain⟨t22,ht22,q15⟩:=bS q15;refine zA (fun S'=>∃ y23:Value,S'=⟨[(20,(dN s11.1)),(19,(dN (a0.length:Int))),(18,.sl 1 (lB a0)),(5,.val (.int .u8 (x20.toNat:Int))),(3,.val y23),(2,.val (.slice none 0 0))],[.row y23 (lB t22) 1 5],39⟩) (fun _ h=>h) ?_ ?_;rotate_left
 ·rintro _ ⟨y23,rfl⟩;show T X _ _ _;refine T.region ?_;iterate 2 refine aA rfl rfl ?_
  refine z6 (yN Z Z Z Z Z Z Z) Z ?_;obtain⟨x27,hx27,q15⟩:=bS q15;refine TL.op (zM (m:=[x20]) ww 0 hx27 Z Z Z Z Z Z Z Z Z (fun _=>Z)) Z (fun v28=>?_);refine aA Z Z ?_;refine aN Z ?_;refine T.region ?_;iterate 2 refine aA rfl rfl ?_
  refine TL.nil ?_;obtain rfl:=osi q15;exact⟨m13,Nat.lt_succ_self _,_,Gst.only [2,3,18,19,20] Z,v28,(w64 (s11.1+1),x27),Z,i16⟩
 rcases z9 ht22 with ⟨c24,ht22⟩|⟨c24,ht22⟩;rotate_left
 ·refine ze Z (beq_eq_false_iff_ne.2 c24) ?_;refine T.skip ?_;obtain rfl:=osi ht22;exact⟨_,Gst.only [2,3,5,18,19,20] Z,y10,Z⟩
 refine zf Z (beq_iff_eq.2 c24) ?_;refine T.region ?_;iterate 2 refine aA rfl rfl ?_
 refine z6 (yN Z Z Z Z Z Z Z) Z ?_;obtain⟨x25,hx25,ht22⟩:=bS ht22;refine TL.op (zM (m:=[x20]) ww 0 hx25 Z Z Z Z Z Z Z Z Z (fun _=>Z)) Z (fun v26=>?_);refine aA Z Z ?_;refine TL.nil ?_;obtain rfl:=osi ht22;exact⟨_,Gst.only [2,3,5,18,19,20] Z,v26,Z⟩
noncomputable def sB (a0:cell_Cell) (a1:List UInt8):Option (List UInt8):=
 if a0.fKept=true then
 bnd (xz a0.fRaw a1) fun x2=>
 some x2
else
 bnd (xb a0 a1) fun x3=>
 bnd (sj x3) fun x4=>
 some x4
theorem cell_Cell_Print_c {a0:cell_Cell} {a1:List UInt8} {b0:Nat} {v1:Value} {res:(List UInt8)} (h0:sB a0 a1=some res):zo X 198 [.agg [.sl 2 (List.map zm a0.fText.fL),dN a0.fText.fN,dN a0.fRaw.fAt,dN a0.fRaw.fN,dT a0.fKept],dP b0] [.var b0 [.val v1] 264,.row v1 (lB a1) 1 5] (fun x=>.sl 1 (lB res)) (fun x=>[.var b0 [.val v1] 264,.row v1 (lB a1) 1 5]):=by
 unfold sB at h0;refine zb (X:=X) Z Tryz.func198 Z Z Tryz.ntmps198 Z Z ?_;refine aS ?_;refine z6 (zD Z Z) Z ?_;refine aA Z Z ?_;refine aN Z ?_;refine T.seq ?_;refine aS ?_;iterate 2 refine aA rfl rfl ?_
 refine aN Z ?_;rcases z9 h0 with ⟨c1,h0⟩|⟨c1,h0⟩
 ·refine zf Z (c1) ?_;refine aS ?_;iterate 3 refine aA rfl rfl ?_
  obtain⟨x2,hx2,h0⟩:=bS h0;refine z6 (OpR.call [0,1] fn201 (v8 hx2) Z Z Z (fun _=>Z)) Z ?_;refine aA Z Z ?_;refine aN Z ?_;refine T.ret ?_;obtain rfl:=osi h0;exact rO [0,1] [4] Z undef (cT Z ResL.nil) Z Z Z Z
 refine ze Z (eN c1) ?_;refine aK Z ?_;refine aS ?_;iterate 2 refine aA rfl rfl ?_
 obtain⟨x3,hx3,h0⟩:=bS h0;refine z6 (OpR.call [0,1] fn113 (wV hx3) Z Z Z (fun _=>Z)) Z ?_;obtain⟨x4,hx4,h0⟩:=bS h0;refine z6 (zh fn230 (quote_Put_c hx4) Z) Z ?_;refine aA Z Z ?_;refine aN Z ?_;refine T.ret ?_;obtain rfl:=osi h0;exact rO [0,1] [4] Z undef (cT Z ResL.nil) Z Z Z Z
noncomputable def vH.l1 (a0:row_Row) (a1:List UInt8) (s4:Int × (List UInt8)):Option (Lp (Int × (List UInt8)) (List UInt8)):=
 if s4.1<(a0.fCells.length:Int) then
 bnd (idx a0.fCells s4.1) fun x13=>
 bnd (if s4.1>0 then
 bnd (app 1 s4.2 [44]) fun x18=>
 some x18
else
 some s4.2:Option (List UInt8)) fun t15=>
 bnd (sB x13 a1) fun x20=>
 bnd (app 1 t15 x20) fun x21=>
 some (Lp.next (w64 (s4.1+1),x21))
else
 some (Lp.done s4.2)
noncomputable def vH (a0:row_Row) (a1:List UInt8):Option (List UInt8):=
 bnd (loop (vH.l1 a0 a1) (0,[]):Option (List UInt8)) fun t1=>
 some t1
theorem row_Row_Print_c {a0:row_Row} {a1:List UInt8} {b0:Nat} {v1:Value} {res:(List UInt8)} (h0:vH a0 a1=some res):zo X 135 [.agg [.sl 5 (List.map zj a0.fCells),dN a0.fEnd,dT a0.fHidden],dP b0] [.var b0 [.val v1] 264,.row v1 (lB a1) 1 5] (fun x=>.sl 1 (lB res)) (fun x=>[.var b0 [.val v1] 264,.row v1 (lB a1) 1 5]):=by
 unfold vH at h0;refine zb (X:=X) Z Tryz.func135 Z Z Tryz.ntmps135 Z Z ?_;refine aS ?_;refine z6 (zD Z Z) Z ?_;refine aA Z Z ?_;refine aN Z ?_;refine aS ?_;refine aA Z Z ?_;refine aN Z ?_;refine T.seq ?_;refine aS ?_;iterate 2 refine aA rfl rfl ?_
 refine z6 (zk (OpR.pure Z) (xn (w9 _ _))) Z ?_;refine aA Z Z ?_;refine aN Z ?_;obtain⟨t1,ht1,h0⟩:=bS h0;refine zA (fun S'=>∃ y2:Value,S'=⟨[(5,.val y2),(4,.val (.slice none 0 0))],[.var b0 [.val v1] 264,.row v1 (lB a1) 1 5,.row y2 (lB t1) 1 5],28⟩) (fun _ h=>h) ?_ ?_;rotate_left
 ·rintro _ ⟨y2,rfl⟩;show T X _ _ _;refine aS ?_;iterate 2 refine aA rfl rfl ?_
  refine aN Z ?_;refine T.ret ?_;obtain rfl:=osi h0;exact zE (ks:=[0,1]) (Gst.trans (Gst.only [4] Z) (Gst.trans (zC 2 Z Z (ReS.cons (Re.base .all) ReS.nil) (ReO.same (ReO.same (ReO.same ReO.nil)))) (Gst.pick [0,1] Z Z))) undef (cT Z ResL.nil) Z Z Z Z
 refine T.block ?_;obtain⟨n5,n10⟩:=zy ht1;refine T.loop (fun n S'=>∃ S'',Gst S' S''∧∃ y3:Value,∃ s4:Int × (List UInt8),S''=⟨[(11,(dN s4.1)),(10,(dN (a0.fCells.length:Int))),(9,.sl 5 (List.map zj a0.fCells)),(5,.val y3),(4,.val (.slice none 0 0)),(1,(dP b0))],[.var b0 [.val v1] 264,.row v1 (lB a1) 1 5,.row y3 (lB s4.2) 1 5],28⟩∧wo (vH.l1 a0 a1) n s4=some t1) n5 ?_ ?_
 ·exact⟨_,Gst.trans (Gst.only [1,4,5,9,10,11] Z) (ye (ow:=[.var b0 [.val v1] 264,.row v1 (lB a1) 1 5]) 1 5 Z),(.slice none 0 0),(0,[]),Z,n10⟩
 rintro n5 _ ⟨_,g,y3,s4,rfl,i9⟩;refine T.ghost g ?_;obtain⟨m6,q7,rfl,q8,i9⟩:=zz i9;unfold vH.l1 at q8;refine aS ?_;refine aA Z Z ?_;refine aN Z ?_;refine T.seq ?_;rcases z9 q8 with ⟨c12,q8⟩|⟨c12,q8⟩;rotate_left
 ·refine ze Z (eF c12) ?_;refine T.exit ?_;obtain rfl:=osi q8;obtain rfl:_=_:=i9;exact⟨_,Gst.only [4,5] Z,y3,Z⟩
 refine zf Z (eT c12) ?_;refine aK Z ?_;refine T.seq ?_;refine T.block ?_;refine aS ?_;refine aA Z Z ?_;obtain⟨x13,hx13,q8⟩:=bS q8;refine z6 (zp zj hx13 Z Z Z Z Z) Z ?_;refine aA Z Z ?_;refine TL.op (OpR.alloc Z Z (fun _=>Z)) Z (fun p14=>?_);refine aA Z Z ?_;refine zv (OpR.store 3 Z Z Z Z Z Z Z Z) ?_;refine aN Z ?_;refine T.seq ?_;refine aS ?_;iterate 2 refine aA rfl rfl ?_
 refine aN Z ?_;obtain⟨t15,ht15,q8⟩:=bS q8;refine zA (fun S'=>∃ y16:Value,S'=⟨[(11,(dN s4.1)),(10,(dN (a0.fCells.length:Int))),(9,.sl 5 (List.map zj a0.fCells)),(7,(dP (blk p14))),(5,.val y16),(4,.val (.slice none 0 0)),(1,(dP b0))],[.var b0 [.val v1] 264,.row v1 (lB a1) 1 5,.row y16 (lB t15) 1 5,.var (blk p14) [.sl 2 (List.map zm x13.fText.fL),dN x13.fText.fN,dN x13.fRaw.fAt,dN x13.fRaw.fN,dT x13.fKept] 144],28⟩) (fun _ h=>h) ?_ ?_
 ·rcases z9 ht15 with ⟨c17,ht15⟩|⟨c17,ht15⟩;rotate_left
  ·refine ze Z (eF c17) ?_;refine T.skip ?_;obtain rfl:=osi ht15;exact⟨_,Gst.only [1,4,5,7,9,10,11] Z,y3,Z⟩
  refine zf Z (eT c17) ?_;refine T.region ?_;refine aA Z Z ?_;refine z6 (yN Z Z Z Z Z Z Z) Z ?_;obtain⟨x18,hx18,ht15⟩:=bS ht15;refine TL.op (zM (m:=[44]) ww 2 hx18 Z Z Z Z Z Z Z Z Z (fun _=>Z)) Z (fun v19=>?_);refine aA Z Z ?_;refine TL.nil ?_;obtain rfl:=osi ht15;exact⟨_,Gst.only [1,4,5,7,9,10,11] Z,v19,Z⟩
 rintro _ ⟨y16,rfl⟩;show T X _ _ _;refine T.region ?_;refine aA Z Z ?_;refine z6 (z7 3 Z Z Z Z) Z ?_;refine aA Z Z ?_;obtain⟨x20,hx20,q8⟩:=bS q8;refine z6 (OpR.call [0,1] fn198 (cell_Cell_Print_c hx20) Z Z Z (fun _=>Z)) Z ?_;obtain⟨x21,hx21,q8⟩:=bS q8;refine TL.op (zM (m:=x20) ww 2 hx21 Z Z Z Z Z Z Z Z Z (fun _=>Z)) Z (fun v22=>?_);refine aA Z Z ?_;refine aN Z ?_;refine T.region ?_;iterate 2 refine aA rfl rfl ?_
 refine TL.nil ?_;obtain rfl:=osi q8;exact⟨m6,Nat.lt_succ_self _,_,gP [1,4,5,9,10,11] [0,1,2] Z Z Z,v22,(w64 (s4.1+1),x21),Z,i9⟩
noncomputable def pA (a0:Int):Option (List UInt8):=
 if a0=1 then
 some [10]
else
 if a0=2 then
 some [13,10]
else
 if a0=3 then
 some [13]
else
 some []
theorem scan_Mark_c {a0:Int} {res:(List UInt8)} (h0:pA a0=some res):zo X 199 [dN a0] [] (fun x=>.val (.string (bs res))) (fun x=>[]):=by
 unfold pA at h0;refine zb (X:=X) Z Tryz.func199 Z Z Tryz.ntmps199 Z Z ?_;refine aS ?_;refine aA Z Z ?_;refine aN Z ?_;refine T.seq ?_;refine aS ?_;refine aA Z Z ?_;refine aN Z ?_;refine T.block ?_;refine aS ?_;iterate 2 refine aA rfl rfl ?_
 refine aN Z ?_;rcases z9 h0 with ⟨c1,h0⟩|⟨c1,h0⟩
 ·refine zf Z (beq_iff_eq.2 c1) ?_;refine aS ?_;refine aA Z Z ?_;refine aN Z ?_;refine T.ret ?_;obtain rfl:=osi h0;exact rO [] [2] Z undef (cT Z ResL.nil) Z Z Z Z
 refine ze Z (beq_eq_false_iff_ne.2 c1) ?_;refine aS ?_;iterate 2 refine aA rfl rfl ?_
 refine aN Z ?_;rcases z9 h0 with ⟨c2,h0⟩|⟨c2,h0⟩
 ·refine zf Z (beq_iff_eq.2 c2) ?_;refine aS ?_;refine aA Z Z ?_;refine aN Z ?_;refine T.ret ?_;obtain rfl:=osi h0;exact rO [] [2] Z undef (cT Z ResL.nil) Z Z Z Z
 refine ze Z (beq_eq_false_iff_ne.2 c2) ?_;refine aS ?_;iterate 2 refine aA rfl rfl ?_
 refine aN Z ?_;rcases z9 h0 with ⟨c3,h0⟩|⟨c3,h0⟩
 ·refine zf Z (beq_iff_eq.2 c3) ?_;refine aS ?_;refine aA Z Z ?_;refine aN Z ?_;refine T.ret ?_;obtain rfl:=osi h0;exact rO [] [2] Z undef (cT Z ResL.nil) Z Z Z Z
 refine ze Z (beq_eq_false_iff_ne.2 c3) ?_;refine aK Z ?_;refine aS ?_;refine aA Z Z ?_;refine aN Z ?_;refine T.ret ?_;obtain rfl:=osi h0;exact rO [] [2] Z undef (cT Z ResL.nil) Z Z Z Z
noncomputable def sR (a0:grid_Grid) (a1:row_Row):Option (List UInt8):=
 if a1.fEnd=0 then
 bnd (pA a0.fEnd) fun x2=>
 some x2
else
 bnd (pA a1.fEnd) fun x3=>
 some x3
theorem grid_Grid_mark_c {a0:grid_Grid} {a1:row_Row} {res:(List UInt8)} (h0:sR a0 a1=some res):zo X 136 [.agg [(eOP a0.fRows.fRoot),dT a0.fTail,dN a0.fEnd],.agg [.sl 5 (List.map zj a1.fCells),dN a1.fEnd,dT a1.fHidden]] [] (fun x=>.val (.string (bs res))) (fun x=>[]):=by
 unfold sR at h0;refine zb (X:=X) Z Tryz.func136 Z Z Tryz.ntmps136 Z Z ?_;refine aS ?_;refine z6 (zD Z Z) Z ?_;refine z6 (zD Z Z) Z ?_;refine aA Z Z ?_;refine aN Z ?_;refine T.seq ?_;refine aS ?_;iterate 3 refine aA rfl rfl ?_
 refine aN Z ?_;rcases z9 h0 with ⟨c1,h0⟩|⟨c1,h0⟩
 ·refine zf Z (beq_iff_eq.2 c1) ?_;refine aS ?_;iterate 2 refine aA rfl rfl ?_
  obtain⟨x2,hx2,h0⟩:=bS h0;refine z6 (zh fn199 (scan_Mark_c hx2) Z) Z ?_;refine aA Z Z ?_;refine aN Z ?_;refine T.ret ?_;obtain rfl:=osi h0;exact rO [] [4] Z undef (cT Z ResL.nil) Z Z Z Z
 refine ze Z (beq_eq_false_iff_ne.2 c1) ?_;refine aK Z ?_;refine aS ?_;iterate 2 refine aA rfl rfl ?_
 obtain⟨x3,hx3,h0⟩:=bS h0;refine z6 (zh fn199 (scan_Mark_c hx3) Z) Z ?_;refine aA Z Z ?_;refine aN Z ?_;refine T.ret ?_;obtain rfl:=osi h0;exact rO [] [4] Z undef (cT Z ResL.nil) Z Z Z Z
noncomputable def uG (a0:Int) (a1:row_Row) (a2:Option NP) (a3:Bool) (a4:Int) (a5:List UInt8) (a6:List UInt8):Option (List UInt8):=
 bnd (vH a1 a5) fun x32=>
 bnd (app 1 a6 x32) fun x33=>
 bnd (bnd (yK (⟨(⟨a2⟩:tTr),a3,a4⟩:grid_Grid)) fun x36=>
 if a0<(w64 (x36-1)) then
 some true
else
 if a3=true then
 some true
else
 some ((x32.length:Int)==0):Option Bool) fun t35=>
 if t35=true then
 bnd (sR (⟨(⟨a2⟩:tTr),a3,a4⟩:grid_Grid) a1) fun x41=>
 bnd (app 1 x33 x41) fun x42=>
 some x42
else
 some x33
theorem qF {a0:Int} {a1:row_Row} {a2:Option NP} {a3:Bool} {a4:Int} {a5:List UInt8} {a6:List UInt8} {b0:Nat} {b1:Nat} {b2:Nat} {v3:Value} {v4:Value} {res:(List UInt8)} (h0:uG a0 a1 a2 a3 a4 a5 a6=some res):sY X b0 [dN a0,.agg [.sl 5 (List.map zj a1.fCells),dN a1.fEnd,dT a1.fHidden]] [.lp b0 .ready none [14,15] uR uQ [(5,(dP b2)),(3,.nod [dP b1]),(2,.nod [(eOP a2),dT a3,dN a4])] 42,.var b1 [.val v3] 264,.var b2 [.val v4] 122,.row v3 (lB a5) 1 5,.row v4 (lB a6) 1 5] (fun x=>(dT true)) (fun x=>[.lp b0 .ready none [14,15] uR uQ [(5,(dP b2)),(3,.nod [dP b1]),(2,.nod [(eOP a2),dT a3,dN a4])] 42,.var b1 [.val v3] 264,.var b2 [.val (vn x 0)] 122,.row v3 (lB a5) 1 5,.row (vn x 0) (lB res) 1 5]):=by
 unfold uG at h0;refine sY.mk (X:=X) Z Z Z ?_;refine aS ?_;refine aA Z Z ?_;refine TL.nil ?_;show T (X.inR b0) _ _ _;refine T.region ?_;refine TL.op (OpR.alloc Z Z (fun _=>Z)) Z (fun p31=>?_);refine zv (OpR.store 5 Z Z Z Z Z Z Z Z) ?_;refine TL.nil ?_;refine RoundA.mk ?_;refine T.block ?_;refine aS ?_;refine z6 (z7 5 Z Z Z Z) Z ?_;refine aA Z Z ?_;obtain⟨x32,hx32,h0⟩:=bS h0;refine z6 (OpR.call [1,3] fn135 (row_Row_Print_c hx32) Z Z Z (fun _=>Z)) Z ?_;refine aA Z Z ?_;refine TL.nil ?_;show T (X.inR b0) _ _ _;refine aS ?_;refine z6 (z7 2 Z Z Z Z) Z ?_;refine aA Z Z ?_;obtain⟨x33,hx33,h0⟩:=bS h0;refine TL.op (zM (m:=x32) ww 4 hx33 Z Z Z Z Z Z Z Z Z (fun _=>Z)) Z (fun v34=>?_);refine zv (OpR.store 2 Z Z Z Z Z Z Z Z) ?_;refine TL.nil ?_;show T (X.inR b0) _ _ _;refine T.seq ?_;obtain⟨t35,ht35,h0⟩:=bS h0;refine zA (fun S'=>S'=⟨[(35,(dT t35)),(7,(dP (blk p31))),(5,(dP b2)),(2,.nod [(eOP a2),dT a3,dN a4])],[.lp b0 .busy none [14,15] uR uQ [(5,(dP b2)),(3,.nod [dP b1]),(2,.nod [(eOP a2),dT a3,dN a4])] 42,.var b1 [.val v3] 264,.var b2 [.val v34] 122,.row v3 (lB a5) 1 5,.row v34 (lB x33) 1 5,.var (blk p31) [.sl 5 (List.map zj a1.fCells),dN a1.fEnd,dT a1.fHidden] 49],42⟩) (fun _ h=>h) ?_ ?_
 ·refine T.region ?_;iterate 2 refine aA rfl rfl ?_
  obtain⟨x36,hx36,ht35⟩:=bS ht35;refine z6 (zh fn22 (yQ hx36) Z) Z ?_;iterate 3 refine aA rfl rfl ?_
  rcases z9 ht35 with ⟨c37,ht35⟩|⟨c37,ht35⟩
  ·refine TL.off Z Z Z Z (eT c37) Z Z ?_;refine TL.off Z Z Z Z (eT c37) Z Z ?_;refine z6 (zt Z (eT c37) Z) Z ?_;refine aA Z Z ?_;refine TL.off Z Z Z Z Z Z Z ?_;refine TL.off Z Z Z Z Z Z Z ?_;refine TL.off Z Z Z Z Z Z Z ?_;refine z6 (zt Z Z Z) Z ?_;refine TL.nil ?_;obtain rfl:=osi ht35;exact⟨_,Gst.only [2,5,7,35] Z,Z⟩
  refine TL.on Z Z Z Z (eF c37) ?_;refine aA Z Z ?_;refine TL.on Z Z Z Z (eF c37) ?_;refine aA Z Z ?_;refine z6 (zx Z (eF c37) Z) Z ?_;refine aA Z Z ?_;rcases z9 ht35 with ⟨c38,ht35⟩|⟨c38,ht35⟩
  ·refine TL.off Z Z Z Z (c38) Z Z ?_;refine TL.off Z Z Z Z (c38) Z Z ?_;refine TL.off Z Z Z Z (c38) Z Z ?_;refine z6 (zt Z (c38) Z) Z ?_;refine TL.nil ?_;obtain rfl:=osi ht35;exact⟨_,Gst.only [2,5,7,35] Z,Z⟩
  refine TL.on Z Z Z Z (eN c38) ?_;refine aA Z Z ?_;refine TL.on Z Z Z Z (eN c38) ?_;refine z6 (zk (OpR.pure Z) (xn (w9 _ _))) Z ?_;refine TL.on Z Z Z Z (eN c38) ?_;refine aA Z Z ?_;refine z6 (zx Z (eN c38) Z) Z ?_;refine TL.nil ?_;obtain rfl:=osi ht35;exact⟨_,Gst.only [2,5,7,35] Z,Z⟩
 rintro _ rfl;show T (X.inR b0) _ _ _;rcases z9 h0 with ⟨c39,h0⟩|⟨c39,h0⟩;rotate_left
 ·refine ze Z (eN c39) ?_;refine T.skip ?_;obtain rfl:=osi h0;exact sX.mk (ks:=[0,1,2,3,4]) (gP [] [0,1,2,3,4] Z Z Z) (.tuple #[v34]) Z Z Z Z Z
 refine zf Z (c39) ?_;obtain⟨x41,hx41,h0⟩:=bS h0;obtain⟨x42,hx42,h0⟩:=bS h0;refine yA zV (fun env40=>[.val v34,.agg [(eOP a2),dT a3,dN a4],.agg [.sl 5 (List.map zj a1.fCells),dN a1.fEnd,dT a1.fHidden],.val (.string (bs x41)),.val (env40 4),.dead]) (fun D env40=>[.lp b0 .busy none [14,15] uR uQ [(5,(dP b2)),(3,.nod [dP b1]),(2,.nod [(eOP a2),dT a3,dN a4])] 42,.var b1 [.val v3] 264,(bif D 5 then .var b2 [.val (env40 4)] 122 else .var b2 [.val v34] 122),.row v3 (lB a5) 1 5,(bif D 4 then .row (env40 4) (lB x42) 1 5 else .row v34 (lB x33) 1 5),.var (blk p31) [.sl 5 (List.map zj a1.fCells),dN a1.fEnd,dT a1.fHidden] 49]) [0,0,0,6,15,31] [] _ (by decide +kernel) (by decide +kernel) (fun _=>Z) (fun _=>Z) ?_ (fun _=>Z) (fun _=>Z) ?_;rotate_left
 ·intro env40;obtain rfl:=osi h0;exact sX.mk (ks:=[0,1,2,3,4]) (gP [] [0,1,2,3,4] Z Z Z) (.tuple #[(env40 4)]) Z Z Z Z Z
 refine zi true ?_ (fun _ _ _ _ _ _ _=>Z) ?_
 ·intro D env40 hA;have e4:D 4=false:=hA.no 4 _ rfl rfl;have e5:D 5=false:=hA.no 5 _ rfl rfl;exact zK [(4,false),(5,false)] ⟨e4,e5,trivial⟩ (Want.plain Z) (z7 2 Z Z Z Z) (fun x=>Z) (fun x=>Z)
 refine aC ?_;refine oT (.agg [.sl 5 (List.map zj a1.fCells),dN a1.fEnd,dT a1.fHidden]) (fun _ _=>z7 5 Z Z Z Z) ?_;refine oT (.val (.string (bs x41))) (fun _ _=>zh fn136 (grid_Grid_mark_c hx41) Z) ?_;refine zi true ?_ (fun D hA env40 x j hj hD=>match j,hj,hD with|0,_,_=>Z|1,_,_=>Z|2,_,_=>Z|3,_,_=>Z|4,hj,_=>absurd Z hj|5,_,_=>Z|_+6,_,_=>Z) ?_
 ·intro D env40 hA;have e5:D 5=false:=hA.no 5 _ rfl rfl;exact zK [(5,false),(4,false)] ⟨e5,hA.me,trivial⟩ (Want.plain Z) (OpR.appendStr (m:=x41) 4 hx42 Z Z Z Z Z Z Z Z Z Z Z (fun _=>Z)) (fun x=>Z) (fun x=>Z)
 refine zi true ?_ (fun _ _ _ _ _ _ _=>Z) ?_
 ·intro D env40 hA;have e4:D 4=true:=hA.yes 4 _ rfl rfl;exact zK [(4,true),(5,false)] ⟨e4,hA.me,trivial⟩ (Want.plain Z) (OpR.store 2 Z Z Z Z Z Z Z Z) (fun x=>Z) (fun x=>Z)
 exact trivial
noncomputable def xk.l1 (a0:Option NP) (a1:Bool) (a2:Int) (a4:Int) (a6:List UInt8) (s10:Int × (List UInt8) × (List wFr)):Option (Lp (Int × (List UInt8) × (List wFr)) (List UInt8)):=
 if s10.1<a4 then
  bnd (ya s10.2.2) fun x19=>
  bnd (idx s10.2.2 x19) fun x20=>
  bnd (some x20.fN) fun q21=>match q21 with
   | none=>
    none
   | some z22=>
    bnd (vi z22) fun x24=>
    bnd (if x20.fNext=(x24.fItems.length:Int) then
     bnd (zL s10.2.2) fun x29=>
     some x29.2
    else
     some s10.2.2:Option (List wFr)) fun t26=>
    bnd (ya t26) fun x31=>
    bnd (idx t26 x31) fun x32=>
    bnd (some x32.fN) fun q33=>match q33 with
     | none=>
      none
     | some z34=>
      bnd (vi z34) fun x36=>
      bnd (idx x36.fItems x32.fNext) fun x38=>
      bnd (uG s10.1 x38 a0 a1 a2 a6 s10.2.1) fun x39=>
      some (Lp.next (w64 (s10.1+1),x39,(t26.set x31.toNat (⟨x32.fN,x32.fFirst,w64 (x32.fNext+1)⟩:wFr))))
 else
  some (Lp.done s10.2.1)
noncomputable def xk (a0:Option NP) (a1:Bool) (a2:Int) (a3:Int) (a4:Int) (a5:Option NP) (a6:List UInt8):Option (List UInt8):=
 if a3=a4 then
 some []
else
 bnd (ym (⟨a5⟩:tTr)) fun x4=>
 match x4 with
| .inl x4=>
 none
| .inr x4=>
 bnd (zJ x4.1 x4.2.1 x4.2.2 0 a3) fun x5=>
 bnd (loop (xk.l1 a0 a1 a2 a4 a6) (a3,[],x5):Option (List UInt8)) fun t6=>
 some t6
theorem rm {a0:Option NP} {a1:Bool} {a2:Int} {a3:Int} {a4:Int} {a5:Option NP} {a6:List UInt8} {b0:Nat} {b1:Nat} {b2:Nat} {b3:Nat} {b4:Nat} {b5:Nat} {v6:Value} {res:(List UInt8)} (h0:xk a0 a1 a2 a3 a4 a5 a6=some res):zo X 146 [.fn (.yield b0) [] [],dP b1,dP b2,dP b3] [.lp b0 .ready none [14,15] uR uQ [(5,(dP b5)),(3,.nod [dP b4]),(2,.nod [(eOP a0),dT a1,dN a2])] 42,.var b1 [dN a3] 3,.var b2 [dN a4] 3,.var b3 [(eOP a5)] 25,.var b4 [.val v6] 264,.var b5 [.val (.slice none 0 0)] 122,.row v6 (lB a6) 1 5] (fun x=>.tup []) (fun x=>[.lp b0 .ready none [14,15] uR uQ [(5,(dP b5)),(3,.nod [dP b4]),(2,.nod [(eOP a0),dT a1,dN a2])] 42,.var b1 [dN a3] 3,.var b2 [dN a4] 3,.var b3 [(eOP a5)] 25,.var b4 [.val v6] 264,.var b5 [.val (vn x 0)] 122,.row v6 (lB a6) 1 5,.row (vn x 0) (lB res) 1 5]):=by
 unfold xk at h0;refine zb (X:=X) Z Tryz.func146 Z Z Tryz.ntmps146 Z Z ?_;refine T.seq ?_;refine aS ?_;refine z6 (z7 1 Z Z Z Z) Z ?_;refine z6 (z7 2 Z Z Z Z) Z ?_;refine aA Z Z ?_;refine aN Z ?_;rcases z9 h0 with ⟨c1,h0⟩|⟨c1,h0⟩
 ·refine zf Z (beq_iff_eq.2 c1) ?_;refine T.ret ?_;obtain rfl:=osi h0;exact zE (ks:=[0,1,2,3,4,5,6,7]) (Gst.trans (Gst.only [] Z) (ye (ow:=[.lp b0 .ready none [14,15] uR uQ [(5,(dP b5)),(3,.nod [dP b4]),(2,.nod [(eOP a0),dT a1,dN a2])] 42,.var b1 [dN a3] 3,.var b2 [dN a4] 3,.var b3 [(eOP a5)] 25,.var b4 [.val v6] 264,.var b5 [.val (.slice none 0 0)] 122,.row v6 (lB a6) 1 5]) 1 5 Z)) (.tuple #[(.slice none 0 0)]) ResL.nil Z Z Z Z
 refine ze Z (beq_eq_false_iff_ne.2 c1) ?_;refine aK Z ?_;refine aS ?_;refine TL.op (OpR.alloc Z Z (fun _=>Z)) Z (fun p2=>?_);refine aN Z ?_;refine T.seq ?_;obtain⟨x4,hx4,h0⟩:=bS h0;rcases x4 with x4|x4
 ·dsimp only at h0;exact (by cases h0)
 dsimp only at h0;obtain⟨x5,hx5,h0⟩:=bS h0;refine yA zV (fun env3=>[.agg [(eOP a5)],.nod [.sl 1 (List.map eNP x4.1),.sl 3 (List.map z8 x4.2.1),dN x4.2.2],dN a3,.tup []]) (fun D env3=>[.lp b0 .ready none [14,15] uR uQ [(5,(dP b5)),(3,.nod [dP b4]),(2,.nod [(eOP a0),dT a1,dN a2])] 42,.var b1 [dN a3] 3,.var b2 [dN a4] 3,.var b3 [(eOP a5)] 25,.var b4 [.val v6] 264,.var b5 [.val (.slice none 0 0)] 122,.row v6 (lB a6) 1 5,(bif D 3 then .var (blk p2) [.val (vn (env3 3) 0)] 228 else .var (blk p2) [.val (.slice none 0 0)] 228)]++(bif D 3 then [.row (vn (env3 3) 0) (List.map yF x5) 3 234] else [])) [0,1,0,7] [0,1,2,5] _ (by decide +kernel) (by decide +kernel) (fun _=>Z) (fun _=>Z) ?_ (fun _=>Z) (fun _=>Z) ?_
 ·refine oT (.agg [(eOP a5)]) (fun _ _=>z7 3 Z Z Z Z) ?_;refine oT (.nod [.sl 1 (List.map eNP x4.1),.sl 3 (List.map z8 x4.2.1),dN x4.2.2]) (fun _ _=>zh fn148 (wb hx4) Z) ?_;refine oT ((dN a3)) (fun _ _=>z7 1 Z Z Z Z) ?_;refine zi true ?_ (fun D hA env3 x j hj hD=>match j,hj,hD with|0,_,_=>Z|1,_,_=>Z|2,_,_=>Z|3,hj,_=>absurd Z hj|_+4,_,_=>Z) ?_
  ·intro D env3 hA;exact zK [(3,false)] ⟨hA.me,trivial⟩ (Want.plain Z) (OpR.call [7] fn147 (wt hx5) Z Z Z (fun _=>Z)) (fun x=>Z) (fun x=>Z)
  exact trivial
 intro env3;show T X _ _ _;refine aS ?_;refine z6 (z7 1 Z Z Z Z) Z ?_;refine aA Z Z ?_;refine aN Z ?_;obtain⟨t6,ht6,h0⟩:=bS h0;refine T.cutN (fun S'=>∃ y7:Value,S'=⟨[],[.lp b0 .ready none [14,15] uR uQ [(5,(dP b5)),(3,.nod [dP b4]),(2,.nod [(eOP a0),dT a1,dN a2])] 42,.var b1 [dN a3] 3,.var b2 [dN a4] 3,.var b3 [(eOP a5)] 25,.var b4 [.val v6] 264,.var b5 [.val y7] 122,.row v6 (lB a6) 1 5,.row y7 (lB t6) 1 5],62⟩) (fun _ _ g ⟨h,S',ds,g',r⟩=>⟨h,S',ds,Gst.trans g g',r⟩) ?_ ?_;rotate_left
 ·rintro _ ⟨y7,rfl⟩;obtain rfl:=osi h0;exact xg (ks:=[0,1,2,3,4,5,6,7]) (Gst.only [] Z) (.tuple #[y7]) ResL.nil Z Z Z Z
 refine T.block ?_;obtain⟨n11,n16⟩:=zy ht6;refine T.loop (fun n S'=>∃ S'',Gst S' S''∧∃ y8:Value,∃ y9:Value,∃ s10:Int × (List UInt8) × (List wFr),S''=⟨[(6,(dN s10.1)),(5,(dP (blk p2))),(2,(dP b2)),(0,.fn (.yield b0) [] [])],[.lp b0 .ready none [14,15] uR uQ [(5,(dP b5)),(3,.nod [dP b4]),(2,.nod [(eOP a0),dT a1,dN a2])] 42,.var b1 [dN a3] 3,.var b2 [dN a4] 3,.var b3 [(eOP a5)] 25,.var b4 [.val v6] 264,.var b5 [.val y8] 122,.row v6 (lB a6) 1 5,.var (blk p2) [.val y9] 228,.row y8 (lB s10.2.1) 1 5,.row y9 (List.map yF s10.2.2) 3 234],62⟩∧wo (xk.l1 a0 a1 a2 a4 a6) n s10=some t6) n11 ?_ ?_
 ·exact⟨_,Gst.trans (Gst.only [0,2,5,6] Z) (Gst.trans (ye (ow:=[.lp b0 .ready none [14,15] uR uQ [(5,(dP b5)),(3,.nod [dP b4]),(2,.nod [(eOP a0),dT a1,dN a2])] 42,.var b1 [dN a3] 3,.var b2 [dN a4] 3,.var b3 [(eOP a5)] 25,.var b4 [.val v6] 264,.var b5 [.val (.slice none 0 0)] 122,.row v6 (lB a6) 1 5,.var (blk p2) [.val (vn (env3 3) 0)] 228,.row (vn (env3 3) 0) (List.map yF x5) 3 234]) 1 5 Z) (Gst.pick [0,1,2,3,4,5,6,7,9,8] Z Z)),(.slice none 0 0),(vn (env3 3) 0),(a3,[],x5),Z,n16⟩
 rintro n11 _ ⟨_,g,y8,y9,s10,rfl,i15⟩;refine T.ghost g ?_;obtain⟨m12,q13,rfl,q14,i15⟩:=zz i15;unfold xk.l1 at q14;refine T.seq ?_;refine aS ?_;refine aA Z Z ?_;refine z6 (z7 2 Z Z Z Z) Z ?_;refine aA Z Z ?_;refine aN Z ?_;rcases z9 q14 with ⟨c18,q14⟩|⟨c18,q14⟩;rotate_left
 ·refine ze Z (eF c18) ?_;refine T.exit ?_;obtain rfl:=osi q14;obtain rfl:_=_:=i15;exact⟨_,gP [] [0,1,2,3,4,5,6,8] Z Z Z,y8,Z⟩
 refine zf Z (eT c18) ?_;refine aK Z ?_;refine T.seq ?_;refine T.block ?_;refine T.seq ?_;refine aS ?_;obtain⟨x19,hx19,q14⟩:=bS q14;refine z6 (OpR.call [7,9] fn149 (yy hx19) Z Z Z (fun _=>Z)) Z ?_;refine aA Z Z ?_;refine aN Z ?_;refine T.seq ?_;obtain⟨x20,hx20,q14⟩:=bS q14;obtain⟨q21,hq21,q14⟩:=bS q14;rcases q21 with _|z22
 ·dsimp only at q14;exact (by cases q14)
 dsimp only at q14;obtain⟨x24,hx24,q14⟩:=bS q14;rw[xf hx24] at hq21;refine yr zV [.val (.pointer (some ⟨blk y9,x19.toNat*3,none⟩)),.val (.pointer (some ⟨blk y9,x19.toNat*3,none⟩)),.val (.pointer (some ⟨blk y9,x19.toNat*3+2,none⟩)),dN x20.fNext,.val (.pointer (some ⟨blk y9,x19.toNat*3,none⟩)),.val (.pointer (some ⟨blk y9,x19.toNat*3,none⟩)),.val (.pointer (some ⟨blk y9,x19.toNat*3,none⟩)),.nod [.sl 1 (List.map eNP x24.fKids),.sl 3 (List.map z8 x24.fItems),dN x24.fN],.nod [.sl 1 (List.map eNP x24.fKids),.sl 3 (List.map z8 x24.fItems),dN x24.fN],.nod [.sl 3 (List.map z8 x24.fItems),dN x24.fN],.sl 3 (List.map z8 x24.fItems),dN (x24.fItems.length:Int),dT (x20.fNext==(x24.fItems.length:Int))] [0,2,5,6,35] (by decide +kernel) Z ?_ Z ?_
 ·iterate 3 refine aB rfl rfl rfl ?_
  refine zw.yes (Want.plain Z) Z (yL (j:=x19) yF 9 hx20 Z Z Z Z) ?_;iterate 3 refine aB rfl rfl rfl ?_
  refine zw.yes (Want.plain Z) Z (zk (zH (j:=x19) yF 9 hx20 Z Z Z Z) (congrArg eOP (osi hq21))) ?_;iterate 3 refine aB rfl rfl rfl ?_
  refine zw.yes (Want.plain Z) Z (zk (OpR.pure Z) (xn (w9 _ _))) ?_;refine aB Z Z Z ?_;exact zw.nil
 show T X _ _ _;obtain⟨t26,ht26,q14⟩:=bS q14;refine zA (fun S'=>∃ y27:Value,S'=⟨[(6,(dN s10.1)),(5,(dP (blk p2))),(2,(dP b2)),(0,.fn (.yield b0) [] [])],[.lp b0 .ready none [14,15] uR uQ [(5,(dP b5)),(3,.nod [dP b4]),(2,.nod [(eOP a0),dT a1,dN a2])] 42,.var b1 [dN a3] 3,.var b2 [dN a4] 3,.var b3 [(eOP a5)] 25,.var b4 [.val v6] 264,.var b5 [.val y8] 122,.row v6 (lB a6) 1 5,.var (blk p2) [.val y27] 228,.row y8 (lB s10.2.1) 1 5,.row y27 (List.map yF t26) 3 234],62⟩) (fun _ h=>h) ?_ ?_
 ·rcases z9 ht26 with ⟨c28,ht26⟩|⟨c28,ht26⟩;rotate_left
  ·refine ze Z (beq_eq_false_iff_ne.2 c28) ?_;refine T.skip ?_;obtain rfl:=osi ht26;exact⟨_,Gst.only [0,2,5,6] Z,y9,Z⟩
  refine zf Z (beq_iff_eq.2 c28) ?_;refine T.region ?_;obtain⟨x29,hx29,ht26⟩:=bS ht26;refine TL.op (OpR.call [7,9] fn150 (wa hx29) Z Z Z (fun _=>Z)) Z (fun w30=>?_);refine TL.nil ?_;obtain rfl:=osi ht26;exact⟨_,Gst.only [0,2,5,6] Z,(vn w30 0),Z⟩
 rintro _ ⟨y27,rfl⟩;show T X _ _ _;refine aS ?_;obtain⟨x31,hx31,q14⟩:=bS q14;refine z6 (OpR.call [7,9] fn149 (yy hx31) Z Z Z (fun _=>Z)) Z ?_;refine aA Z Z ?_;refine aN Z ?_;refine T.seq ?_;refine T.seq ?_;obtain⟨x32,hx32,q14⟩:=bS q14;obtain⟨q33,hq33,q14⟩:=bS q14;rcases q33 with _|z34
 ·dsimp only at q14;exact (by cases q14)
 dsimp only at q14;obtain⟨x36,hx36,q14⟩:=bS q14;rw[xf hx36] at hq33;obtain⟨x38,hx38,q14⟩:=bS q14;obtain⟨x39,hx39,q14⟩:=bS q14;refine yA zV (fun env37=>[.fn (.yield b0) [] [],dN s10.1,.val (.pointer (some ⟨blk y27,x31.toNat*3,none⟩)),.val (.pointer (some ⟨blk y27,x31.toNat*3,none⟩)),.val (.pointer (some ⟨blk y27,x31.toNat*3,none⟩)),.nod [.sl 1 (List.map eNP x36.fKids),.sl 3 (List.map z8 x36.fItems),dN x36.fN],.nod [.sl 1 (List.map eNP x36.fKids),.sl 3 (List.map z8 x36.fItems),dN x36.fN],.nod [.sl 3 (List.map z8 x36.fItems),dN x36.fN],.sl 3 (List.map z8 x36.fItems),.val (.pointer (some ⟨blk y27,x31.toNat*3,none⟩)),.val (.pointer (some ⟨blk y27,x31.toNat*3,none⟩)),.val (.pointer (some ⟨blk y27,x31.toNat*3+2,none⟩)),dN x32.fNext,.nod [.sl 5 (List.map zj x38.fCells),dN x38.fEnd,dT x38.fHidden],.agg [.sl 5 (List.map zj x38.fCells),dN x38.fEnd,dT x38.fHidden],dT true,dT false]) (fun D env37=>[.lp b0 .ready none [14,15] uR uQ [(5,(dP b5)),(3,.nod [dP b4]),(2,.nod [(eOP a0),dT a1,dN a2])] 42,.var b1 [dN a3] 3,.var b2 [dN a4] 3,.var b3 [(eOP a5)] 25,.var b4 [.val v6] 264,(bif D 15 then .var b5 [.val (vn (env37 15) 0)] 122 else .var b5 [.val y8] 122),.row v6 (lB a6) 1 5,.var (blk p2) [.val y27] 228,(bif D 15 then .row (vn (env37 15) 0) (lB x39) 1 5 else .row y8 (lB s10.2.1) 1 5),.row y27 (List.map yF t26) 3 234]) [0,0,0,4,12,28,60,124,252,0,512,1536,3584,8188,16380,32767,65535] [0,2,5,6,8,54] _ (by decide +kernel) (by decide +kernel) (fun _=>Z) (fun _=>Z) ?_ (fun _=>Z) (fun _=>Z) ?_;rotate_left
 ·intro env37;show T X _ _ _;refine ze Z Z ?_;refine aK Z ?_;refine T.region ?_;iterate 3 refine aA rfl rfl ?_
  refine z6 (yL (j:=x31) yF 9 hx32 Z Z Z Z) Z ?_;iterate 3 refine aA rfl rfl ?_
  refine zv (un (j:=x31) yF (⟨x32.fN,x32.fFirst,w64 (x32.fNext+1)⟩:wFr) 9 hx32 Z Z Z Z Z Z Z Z Z) ?_;refine aN Z ?_;refine T.region ?_;iterate 3 refine aA rfl rfl ?_
  refine TL.nil ?_;obtain rfl:=osi q14;exact⟨m12,Nat.lt_succ_self _,_,Gst.only [0,2,5,6] Z,(vn (env37 15) 0),y27,(w64 (s10.1+1),x39,(t26.set x31.toNat (⟨x32.fN,x32.fFirst,w64 (x32.fNext+1)⟩:wFr))),Z,i15⟩
 iterate 5 refine aC ?_
 refine oT (.nod [.sl 1 (List.map eNP x36.fKids),.sl 3 (List.map z8 x36.fItems),dN x36.fN]) (fun _ _=>zk (zH (j:=x31) yF 9 hx32 Z Z Z Z) (congrArg eOP (osi hq33))) ?_;iterate 6 refine aC ?_
 refine oT ((dN x32.fNext)) (fun _ _=>yL (j:=x31) yF 9 hx32 Z Z Z Z) ?_;refine oT (.nod [.sl 5 (List.map zj x38.fCells),dN x38.fEnd,dT x38.fHidden]) (fun _ _=>zp z8 hx38 Z Z Z Z Z) ?_;refine aC ?_;refine zi true ?_ (fun D hA env37 x j hj hD=>match j,hj,hD with|0,_,_=>Z|1,_,_=>Z|2,_,_=>Z|3,_,_=>Z|4,_,_=>Z|5,_,_=>Z|6,_,_=>Z|7,_,_=>Z|8,_,_=>Z|9,_,_=>Z|10,_,_=>Z|11,_,_=>Z|12,_,_=>Z|13,_,_=>Z|14,_,_=>Z|15,hj,_=>absurd Z hj|16,_,_=>Z|_+17,_,_=>Z) ?_
 ·intro D env37 hA;exact zK [(15,false)] ⟨hA.me,trivial⟩ (Want.plain Z) (qr [0,4,5,6,8] Z (qF hx39) Z Z Z (fun _=>Z)) (fun x=>Z) (fun x=>Z)
 refine aC ?_;exact trivial
noncomputable def sS (a0:grid_Grid) (a1:List UInt8):Option (List UInt8):=
 bnd (yK a0) fun x3=>
 bnd (xF a0.fRows 0 x3) fun x4=>
 bnd (xk a0.fRows.fRoot a0.fTail a0.fEnd x4.1 x4.2.1 x4.2.2 a1) fun x6=>
 some x6
theorem grid_Grid_Save_c {a0:grid_Grid} {a1:List UInt8} {b0:Nat} {v1:Value} {res:(List UInt8)} (h0:sS a0 a1=some res):zo X 69 [.agg [(eOP a0.fRows.fRoot),dT a0.fTail,dN a0.fEnd],dP b0] [.var b0 [.val v1] 264,.row v1 (lB a1) 1 5] (fun x=>.sl 1 (lB res)) (fun x=>[.var b0 [.val v1] 264,.row v1 (lB a1) 1 5]):=by
 unfold sS at h0;refine zb (X:=X) Z Tryz.func69 Z Z Tryz.ntmps69 Z Z ?_;refine aS ?_;refine z6 (zD Z Z) Z ?_;refine z6 (zD Z Z) Z ?_;refine aA Z Z ?_;refine aN Z ?_;refine aS ?_;refine TL.op (OpR.alloc Z Z (fun _=>Z)) Z (fun p1=>?_);refine aN Z ?_;refine T.seq ?_;refine T.seq ?_;obtain⟨x3,hx3,h0⟩:=bS h0;obtain⟨x4,hx4,h0⟩:=bS h0;refine yA zV (fun env2=>[.nod [(eOP a0.fRows.fRoot),dT a0.fTail,dN a0.fEnd],.agg [(eOP a0.fRows.fRoot)],.agg [(eOP a0.fRows.fRoot),dT a0.fTail,dN a0.fEnd],dN x3,.fn (.func 146) [] [dP (blk (vn (env2 4) 0)),dP (blk (vn (env2 4) 1)),dP (blk (vn (env2 4) 2))]]) (fun D env2=>[.var b0 [.val v1] 264,.row v1 (lB a1) 1 5,.var (blk p1) [.val (.slice none 0 0)] 122]++(bif D 4 then [.var (blk (vn (env2 4) 0)) [dN x4.1] 3] else [])++(bif D 4 then [.var (blk (vn (env2 4) 1)) [dN x4.2.1] 3] else [])++(bif D 4 then [.var (blk (vn (env2 4) 2)) [(eOP x4.2.2)] 25] else [])) [0,1,0,4,15] [2,3,4,5,13] _ (by decide +kernel) (by decide +kernel) (fun _=>Z) (fun _=>Z) ?_ (fun _=>Z) (fun _=>Z) ?_;rotate_left
 ·intro env2;show T X _ _ _;refine T.block ?_;obtain⟨x6,hx6,h0⟩:=bS h0;refine T.rangeN (A:=uR) (B:=uQ) [2,3,5] [3,4,5,0,2,1] (.inl Z) Z Z Z Z Z fn146 Z Z (fun l5=>(rm hx6)) (fun _=>Z) (fun w7=>?_);show T X _ _ _;refine aS ?_;refine z6 (z7 2 Z Z Z Z) Z ?_;refine aA Z Z ?_;refine aN Z ?_;refine T.ret ?_;obtain rfl:=osi h0;exact zE (ks:=[0,1]) (Gst.trans (Gst.only [4] Z) (Gst.trans (zC 6 Z Z (ReS.cons (Re.base .all) ReS.nil) (ReO.same (ReO.same (ReO.var (ReL.cons (Re.base .all) ReL.nil) (ReO.same (ReO.same (ReO.same (ReO.same ReO.nil)))))))) (Gst.pick [0,1] Z Z))) undef (cT Z ResL.nil) Z Z Z Z
 iterate 3 refine aC ?_
 refine oT ((dN x3)) (fun _ _=>zh fn22 (yQ hx3) Z) ?_;refine zi true ?_ (fun D hA env2 x j hj hD=>match j,hj,hD with|0,_,_=>Z|1,_,_=>Z|2,_,_=>Z|3,_,_=>Z|4,hj,_=>absurd Z hj|_+5,_,_=>Z) ?_
 ·intro D env2 hA;exact zK [(4,false)] ⟨hA.me,trivial⟩ (Want.plain Z) (OpR.call [] fn80 (vx hx4) Z Z Z (fun _=>Z)) (fun x=>Z) (fun x=>Z)
 exact trivial
noncomputable def yR.l1 (a0:List row_Row) (a1:List order_By) (a2:List UInt8) (s4:Int × Int × (List (List row_Row))):Option (Lp (Int × Int × (List (List row_Row))) (List (List row_Row))):=
 if s4.2.1<(a0.length:Int) then
 bnd (bnd (if (w64 (s4.2.1+1))<(a0.length:Int) then
 bnd (idx a0 s4.2.1) fun x18=>
 bnd (idx a0 (w64 (s4.2.1+1))) fun x19=>
 bnd (yj x18 x19 a1 a2) fun x20=>
 some (decide (x20≤0))
else
 some false:Option Bool) fun t15=>
 if t15=true then
 some (s4.1,s4.2.2)
else
 bnd (cut a0 s4.1 (w64 (s4.2.1+1))) fun x22=>
 bnd (yi x22) fun x23=>
 bnd (app 24 s4.2.2 [x23]) fun x25=>
 some (w64 (s4.2.1+1),x25):Option (Int × (List (List row_Row)))) fun t13=>
 some (Lp.next (t13.1,w64 (s4.2.1+1),t13.2))
else
 some (Lp.done s4.2.2)
noncomputable def yR (a0:List row_Row) (a1:List order_By) (a2:List UInt8):Option (List (List row_Row)):=
 bnd (loop (yR.l1 a0 a1 a2) (0,0,[]):Option (List (List row_Row))) fun t1=>
 some t1
theorem tS {a0:List row_Row} {a1:List order_By} {a2:List UInt8} {b0:Nat} {b1:Nat} {b2:Nat} {v3:Value} {res:(List (List row_Row))} (h0:yR a0 a1 a2=some res):zo X 127 [.sl 3 (List.map z8 a0),.fn (.func 170) [] [dP b0,dP b1]] [.var b0 [.sl 2 (List.map zg a1)] 104,.var b1 [dP b2] 28,.var b2 [.val v3] 264,.row v3 (lB a2) 1 5] (fun x=>.sl 1 (List.map xQ res)) (fun x=>[.var b0 [.sl 2 (List.map zg a1)] 104,.var b1 [dP b2] 28,.var b2 [.val v3] 264,.row v3 (lB a2) 1 5]):=by
 unfold yR at h0;refine zb (X:=X) Z Tryz.func127 Z Z Tryz.ntmps127 Z Z ?_;refine aS ?_;refine aA Z Z ?_;refine aN Z ?_;refine aS ?_;refine aA Z Z ?_;refine aN Z ?_;refine aS ?_;refine aA Z Z ?_;refine aN Z ?_;refine T.seq ?_;refine aS ?_;refine aA Z Z ?_;refine z6 (zk (OpR.pure Z) (xn (w9 _ _))) Z ?_;refine aA Z Z ?_;refine aN Z ?_;obtain⟨t1,ht1,h0⟩:=bS h0;refine zA (fun S'=>∃ y2:Value,S'=⟨[(5,.val y2),(4,.val (.slice none 0 0))],[.var b0 [.sl 2 (List.map zg a1)] 104,.var b1 [dP b2] 28,.var b2 [.val v3] 264,.row v3 (lB a2) 1 5,.row y2 (List.map xQ t1) 1 163],45⟩) (fun _ h=>h) ?_ ?_;rotate_left
 ·rintro _ ⟨y2,rfl⟩;show T X _ _ _;refine aS ?_;iterate 2 refine aA rfl rfl ?_
  refine aN Z ?_;refine T.ret ?_;obtain rfl:=osi h0;exact zE (ks:=[0,1,2,3]) (Gst.trans (Gst.only [4] Z) (Gst.trans (zC 4 Z Z (ReS.cons (Re.base .all) ReS.nil) (ReO.same (ReO.same (ReO.same (ReO.same (ReO.same ReO.nil)))))) (Gst.pick [0,1,2,3] Z Z))) undef (cT Z ResL.nil) Z Z Z Z
 refine T.block ?_;obtain⟨n5,n10⟩:=zy ht1;refine T.loop (fun n S'=>∃ S'',Gst S' S''∧∃ y3:Value,∃ s4:Int × Int × (List (List row_Row)),S''=⟨[(10,(dN s4.2.1)),(9,(dN (a0.length:Int))),(6,(dN s4.1)),(5,.val y3),(4,.val (.slice none 0 0)),(1,.fn (.func 170) [] [dP b0,dP b1]),(0,.sl 3 (List.map z8 a0))],[.var b0 [.sl 2 (List.map zg a1)] 104,.var b1 [dP b2] 28,.var b2 [.val v3] 264,.row v3 (lB a2) 1 5,.row y3 (List.map xQ s4.2.2) 1 163],45⟩∧wo (yR.l1 a0 a1 a2) n s4=some t1) n5 ?_ ?_
 ·exact⟨_,Gst.trans (Gst.only [0,1,4,5,6,9,10] Z) (ye (ow:=[.var b0 [.sl 2 (List.map zg a1)] 104,.var b1 [dP b2] 28,.var b2 [.val v3] 264,.row v3 (lB a2) 1 5]) 1 163 Z),(.slice none 0 0),(0,0,[]),Z,n10⟩
 rintro n5 _ ⟨_,g,y3,s4,rfl,i9⟩;refine T.ghost g ?_;obtain⟨m6,q7,rfl,q8,i9⟩:=zz i9;unfold yR.l1 at q8;refine aS ?_;refine aA Z Z ?_;refine aN Z ?_;refine T.seq ?_;rcases z9 q8 with ⟨c12,q8⟩|⟨c12,q8⟩;rotate_left
 ·refine ze Z (eF c12) ?_;refine T.exit ?_;obtain rfl:=osi q8;obtain rfl:_=_:=i9;exact⟨_,Gst.only [4,5] Z,y3,Z⟩
 refine zf Z (eT c12) ?_;refine aK Z ?_;refine T.seq ?_;obtain⟨t13,ht13,q8⟩:=bS q8;refine zA (fun S'=>∃ y14:Value,S'=⟨[(10,(dN s4.2.1)),(9,(dN (a0.length:Int))),(6,(dN t13.1)),(5,.val y14),(4,.val (.slice none 0 0)),(1,.fn (.func 170) [] [dP b0,dP b1]),(0,.sl 3 (List.map z8 a0))],[.var b0 [.sl 2 (List.map zg a1)] 104,.var b1 [dP b2] 28,.var b2 [.val v3] 264,.row v3 (lB a2) 1 5,.row y14 (List.map xQ t13.2) 1 163],45⟩) (fun _ h=>h) ?_ ?_;rotate_left
 ·rintro _ ⟨y14,rfl⟩;show T X _ _ _;refine T.region ?_;iterate 2 refine aA rfl rfl ?_
  refine TL.nil ?_;obtain rfl:=osi q8;exact⟨m6,Nat.lt_succ_self _,_,Gst.only [0,1,4,5,6,9,10] Z,y14,(t13.1,w64 (s4.2.1+1),t13.2),Z,i9⟩
 refine T.block ?_;refine aS ?_;iterate 2 refine aA rfl rfl ?_
 refine aN Z ?_;refine T.seq ?_;refine T.seq ?_;obtain⟨t15,ht15,ht13⟩:=bS ht13;refine zA (fun S'=>S'=⟨[(31,(dT t15)),(10,(dN s4.2.1)),(9,(dN (a0.length:Int))),(7,(dN s4.2.1)),(6,(dN s4.1)),(5,.val y3),(4,.val (.slice none 0 0)),(1,.fn (.func 170) [] [dP b0,dP b1]),(0,.sl 3 (List.map z8 a0))],[.var b0 [.sl 2 (List.map zg a1)] 104,.var b1 [dP b2] 28,.var b2 [.val v3] 264,.row v3 (lB a2) 1 5,.row y3 (List.map xQ s4.2.2) 1 163],45⟩) (fun _ h=>h) ?_ ?_;rotate_left
 ·rintro _ rfl;show T X _ _ _;rcases z9 ht13 with ⟨c21,ht13⟩|⟨c21,ht13⟩
  ·refine zf Z (c21) ?_;refine T.exit ?_;obtain rfl:=osi ht13;exact⟨_,Gst.only [0,1,4,5,6,9,10] Z,y3,Z⟩
  refine ze Z (eN c21) ?_;refine aK Z ?_;refine aS ?_;iterate 5 refine aA rfl rfl ?_
  obtain⟨x22,hx22,ht13⟩:=bS ht13;refine z6 (wR (sz:=3) z8 hx22 Z Z Z Z (BdM.some Z) (BdM.some Z) Z) Z ?_;obtain⟨x23,hx23,ht13⟩:=bS ht13;refine TL.op (OpR.call [] fn191 (vD hx23) Z Z Z (fun _=>Z)) Z (fun w24=>?_);refine TL.ghost (zC 5 Z Z (ReS.cons (Re.base .all) (ReS.refl _)) (ReO.same (ReO.same (ReO.same (ReO.same (ReO.same (ReO.same ReO.nil))))))) ?_;refine z6 (yN Z Z Z Z Z Z Z) Z ?_;obtain⟨x25,hx25,ht13⟩:=bS ht13;refine TL.op (zM (m:=[x23]) xQ 4 hx25 Z Z Z Z Z Z Z Z Z (fun _=>Z)) Z (fun v26=>?_);refine aA Z Z ?_;refine aN Z ?_;refine T.region ?_;iterate 3 refine aA rfl rfl ?_
  refine TL.nil ?_;obtain rfl:=osi ht13;exact⟨_,gP [0,1,4,5,6,9,10] [0,1,2,3,4] Z Z Z,v26,Z⟩
 rcases z9 ht15 with ⟨c17,ht15⟩|⟨c17,ht15⟩;rotate_left
 ·refine yr zV [dN s4.2.1,dN (w64 (s4.2.1+1)),.sl 3 (List.map z8 a0),dN (a0.length:Int),dT (decide ((w64 (s4.2.1+1))<(a0.length:Int))),dT (decide ((w64 (s4.2.1+1))<(a0.length:Int))),.tup [],.tup [],.tup [],.tup [],.tup [],.tup [],.tup [],.tup [],.tup [],.tup [],.tup [],.tup [],dT false] [0,1,4,5,6,7,9,10,31] (by decide +kernel) Z ?_ Z ?_;rotate_left
  ·obtain rfl:=osi ht15;exact⟨_,Gst.only [0,1,4,5,6,7,9,10,31] Z,Z⟩
  iterate 3 refine aB rfl rfl rfl ?_
  refine zw.yes (Want.plain Z) Z (zk (OpR.pure Z) (xn (w9 _ _))) ?_;iterate 2 refine aB rfl rfl rfl ?_
  refine zw.no (Want.bool rfl rfl rfl rfl (by rw[(eF c17)]; rfl)) rfl ?_;refine zw.no (Want.bool rfl rfl rfl rfl (by rw[(eF c17)]; rfl)) rfl ?_;refine zw.no (Want.bool rfl rfl rfl rfl (by rw[(eF c17)]; rfl)) rfl ?_;refine zw.no (Want.bool rfl rfl rfl rfl (by rw[(eF c17)]; rfl)) rfl ?_;refine zw.no (Want.bool rfl rfl rfl rfl (by rw[(eF c17)]; rfl)) rfl ?_;refine zw.no (Want.bool rfl rfl rfl rfl (by rw[(eF c17)]; rfl)) rfl ?_;refine zw.no (Want.bool rfl rfl rfl rfl (by rw[(eF c17)]; rfl)) rfl ?_;refine zw.no (Want.bool rfl rfl rfl rfl (by rw[(eF c17)]; rfl)) rfl ?_;refine zw.no (Want.bool rfl rfl rfl rfl (by rw[(eF c17)]; rfl)) rfl ?_;refine zw.no (Want.bool rfl rfl rfl rfl (by rw[(eF c17)]; rfl)) rfl ?_;refine zw.no (Want.bool rfl rfl rfl rfl (by rw[(eF c17)]; rfl)) rfl ?_;refine zw.no (Want.bool rfl rfl rfl rfl (by rw[(eF c17)]; rfl)) rfl ?_;refine zw.yes (Want.plain Z) Z (zx Z (eF c17) Z) ?_;exact zw.nil
 obtain⟨x18,hx18,ht15⟩:=bS ht15;obtain⟨x19,hx19,ht15⟩:=bS ht15;obtain⟨x20,hx20,ht15⟩:=bS ht15;refine yr zV [dN s4.2.1,dN (w64 (s4.2.1+1)),.sl 3 (List.map z8 a0),dN (a0.length:Int),dT (decide ((w64 (s4.2.1+1))<(a0.length:Int))),dT (decide ((w64 (s4.2.1+1))<(a0.length:Int))),.fn (.func 170) [] [dP b0,dP b1],.sl 3 (List.map z8 a0),dN s4.2.1,.nod [.sl 5 (List.map zj x18.fCells),dN x18.fEnd,dT x18.fHidden],.agg [.sl 5 (List.map zj x18.fCells),dN x18.fEnd,dT x18.fHidden],.sl 3 (List.map z8 a0),dN s4.2.1,dN (w64 (s4.2.1+1)),.nod [.sl 5 (List.map zj x19.fCells),dN x19.fEnd,dT x19.fHidden],.agg [.sl 5 (List.map zj x19.fCells),dN x19.fEnd,dT x19.fHidden],dN x20,dT (decide (x20≤0)),dT (decide (x20≤0))] [0,1,4,5,6,7,9,10,31] (by decide +kernel) Z ?_ Z ?_;rotate_left
 ·obtain rfl:=osi ht15;exact⟨_,Gst.only [0,1,4,5,6,7,9,10,31] Z,Z⟩
 iterate 3 refine aB rfl rfl rfl ?_
 refine zw.yes (Want.plain Z) Z (zk (OpR.pure Z) (xn (w9 _ _))) ?_;iterate 2 refine aB rfl rfl rfl ?_
 refine zw.yes (Want.bool rfl rfl rfl rfl (by rw[(eT c17)]; rfl)) rfl (OpR.pure rfl) ?_;refine zw.yes (Want.bool rfl rfl rfl rfl (by rw[(eT c17)]; rfl)) rfl (OpR.pure rfl) ?_;refine zw.yes (Want.bool rfl rfl rfl rfl (by rw[(eT c17)]; rfl)) rfl (OpR.pure rfl) ?_;refine zw.yes (Want.bool rfl rfl rfl rfl (by rw[(eT c17)]; rfl)) rfl (zp z8 hx18 rfl rfl rfl rfl rfl) ?_;refine zw.yes (Want.bool rfl rfl rfl rfl (by rw[(eT c17)]; rfl)) rfl (OpR.pure rfl) ?_;refine zw.yes (Want.bool rfl rfl rfl rfl (by rw[(eT c17)]; rfl)) rfl (OpR.pure rfl) ?_;refine zw.yes (Want.bool rfl rfl rfl rfl (by rw[(eT c17)]; rfl)) rfl (OpR.pure rfl) ?_;refine zw.yes (Want.bool rfl rfl rfl rfl (by rw[(eT c17)]; rfl)) rfl (OpR.pure rfl) ?_;refine zw.yes (Want.bool rfl rfl rfl rfl (by rw[(eT c17)]; rfl)) rfl (zp z8 hx19 rfl rfl rfl rfl rfl) ?_;refine zw.yes (Want.bool rfl rfl rfl rfl (by rw[(eT c17)]; rfl)) rfl (OpR.pure rfl) ?_;refine zw.yes (Want.bool rfl rfl rfl rfl (by rw[(eT c17)]; rfl)) rfl (vX [0,1,2,3] rfl fn170 (vU hx20) rfl rfl rfl (fun _=>rfl)) ?_;refine zw.yes (Want.bool rfl rfl rfl rfl (by rw[(eT c17)]; rfl)) rfl (OpR.pure rfl) ?_;refine zw.yes (Want.plain Z) Z (zt Z (eT c17) Z) ?_;exact zw.nil
noncomputable def xL.l1 (a0:List (List row_Row)) (s2:Int × Int):Option (Lp (Int × Int) Int):=
 if s2.2<(a0.length:Int) then
 bnd (idx a0 s2.2) fun x11=>
 some (Lp.next (w64 (s2.1+(x11.length:Int)),w64 (s2.2+1)))
else
 some (Lp.done s2.1)
noncomputable def xL (a0:List (List row_Row)):Option Int:=
 bnd (loop (xL.l1 a0) (0,0):Option Int) fun t1=>
 some t1
theorem qD {a0:List (List row_Row)} {res:Int} (h0:xL a0=some res):zo X 216 [.sl 1 (List.map xQ a0)] [] (fun x=>(dN res)) (fun x=>[]):=by
 unfold xL at h0;refine zb (X:=X) Z Tryz.func216 Z Z Tryz.ntmps216 Z Z ?_;refine aS ?_;refine aA Z Z ?_;refine aN Z ?_;refine aS ?_;refine aA Z Z ?_;refine aN Z ?_;refine T.seq ?_;refine aS ?_;refine aA Z Z ?_;refine z6 (zk (OpR.pure Z) (xn (w9 _ _))) Z ?_;refine aA Z Z ?_;refine aN Z ?_;obtain⟨t1,ht1,h0⟩:=bS h0;refine zA (fun S'=>S'=⟨[(3,(dN t1)),(2,(dN 0))],[],18⟩) (fun _ h=>h) ?_ ?_;rotate_left
 ·rintro _ rfl;show T X _ _ _;refine aS ?_;iterate 2 refine aA rfl rfl ?_
  refine aN Z ?_;refine T.ret ?_;obtain rfl:=osi h0;exact rO [] [2] Z undef (cT Z ResL.nil) Z Z Z Z
 refine T.block ?_;obtain⟨n3,n8⟩:=zy ht1;refine T.loop (fun n S'=>∃ S'',Gst S' S''∧∃ s2:Int × Int,S''=⟨[(8,(dN s2.2)),(7,(dN (a0.length:Int))),(6,.sl 1 (List.map xQ a0)),(3,(dN s2.1)),(2,(dN 0))],[],18⟩∧wo (xL.l1 a0) n s2=some t1) n3 ?_ ?_
 ·exact⟨_,Gst.only [2,3,6,7,8] Z,(0,0),Z,n8⟩
 rintro n3 _ ⟨_,g,s2,rfl,i7⟩;refine T.ghost g ?_;obtain⟨m4,q5,rfl,q6,i7⟩:=zz i7;unfold xL.l1 at q6;refine aS ?_;refine aA Z Z ?_;refine aN Z ?_;refine T.seq ?_;rcases z9 q6 with ⟨c10,q6⟩|⟨c10,q6⟩;rotate_left
 ·refine ze Z (eF c10) ?_;refine T.exit ?_;obtain rfl:=osi q6;obtain rfl:_=_:=i7;exact⟨_,Gst.only [2,3] Z,Z⟩
 refine zf Z (eT c10) ?_;refine aK Z ?_;refine T.seq ?_;refine T.block ?_;refine aS ?_;obtain⟨x11,hx11,q6⟩:=bS q6;refine z6 (zp xQ hx11 Z Z Z Z Z) Z ?_;iterate 2 refine aA rfl rfl ?_
 refine aN Z ?_;refine T.region ?_;iterate 2 refine aA rfl rfl ?_
 refine z6 (zk (OpR.pure Z) (xn (w9 _ _))) Z ?_;iterate 2 refine aA rfl rfl ?_
 refine aN Z ?_;refine T.region ?_;iterate 2 refine aA rfl rfl ?_
 refine TL.nil ?_;obtain rfl:=osi q6;exact⟨m4,Nat.lt_succ_self _,_,Gst.only [2,3,6,7,8] Z,(w64 (s2.1+(x11.length:Int)),w64 (s2.2+1)),Z,i7⟩
noncomputable def vt (a0:merge_run_damier_row_Row) (a1:List merge_run_damier_row_Row) (a2:List order_By) (a3:List UInt8):Option (List merge_run_damier_row_Row):=
 bnd (app 32 a1 [a0]) fun x2=>
 some x2
theorem sI {a0:merge_run_damier_row_Row} {a1:List merge_run_damier_row_Row} {a2:List order_By} {a3:List UInt8} {b0:Nat} {v1:Value} {b2:Nat} {b3:Nat} {b4:Nat} {v5:Value} {res:(List merge_run_damier_row_Row)} (h0:vt a0 a1 a2 a3=some res):zo X 300 [dP b0,.ifc 324 (.agg [.sl 3 (List.map z8 a0.fRest),dN a0.fWhich])] [.var b0 [.val v1,.fn (.func 170) [] [dP b2,dP b3]] 321,.row v1 (List.map za a1) 2 324,.var b2 [.sl 2 (List.map zg a2)] 104,.var b3 [dP b4] 28,.var b4 [.val v5] 264,.row v5 (lB a3) 1 5] (fun x=>.tup []) (fun x=>[.var b0 [.val (vn x 0),.fn (.func 170) [] [dP b2,dP b3]] 321,.row (vn x 0) (List.map za res) 2 324,.var b2 [.sl 2 (List.map zg a2)] 104,.var b3 [dP b4] 28,.var b4 [.val v5] 264,.row v5 (lB a3) 1 5]):=by
 unfold vt at h0;refine zb (X:=X) Z Tryz.func300 Z Z Tryz.ntmps300 Z Z ?_;obtain⟨x2,hx2,h0⟩:=bS h0;refine yA zV (fun env1=>[dP b0,dP b0,dP b0,dP b0,.val v1,.ifc 324 (.agg [.sl 3 (List.map z8 a0.fRest),dN a0.fWhich]),.agg [.sl 3 (List.map z8 a0.fRest),dN a0.fWhich],.sl 2 (List.map za [a0]),.val (env1 8),dP b0,dP b0,.dead]) (fun D env1=>[(bif D 11 then .var b0 [.val (env1 8),.fn (.func 170) [] [dP b2,dP b3]] 321 else .var b0 [.val v1,.fn (.func 170) [] [dP b2,dP b3]] 321),(bif D 8 then .row (env1 8) (List.map za x2) 2 324 else .row v1 (List.map za a1) 2 324),.var b2 [.sl 2 (List.map zg a2)] 104,.var b3 [dP b4] 28,.var b4 [.val v5] 264,.row v5 (lB a3) 1 5]) [0,0,2,6,14,0,32,96,254,511,1023,2047] [] _ (by decide +kernel) (by decide +kernel) (fun _=>Z) (fun _=>Z) ?_ (fun _=>Z) (fun _=>Z) ?_;rotate_left
 ·intro env1;obtain rfl:=osi h0;exact xg (ks:=[0,1,2,3,4,5]) (Gst.only [] Z) (.tuple #[(env1 8)]) ResL.nil Z Z Z Z
 iterate 4 refine aC ?_
 refine zi true ?_ (fun _ _ _ _ _ _ _=>Z) ?_
 ·intro D env1 hA;have e8:D 8=false:=hA.no 8 _ rfl rfl;have e11:D 11=false:=hA.no 11 _ rfl rfl;exact zK [(8,false),(11,false)] ⟨e8,e11,trivial⟩ (Want.plain Z) (z7 0 Z Z Z Z) (fun x=>Z) (fun x=>Z)
 refine aC ?_;refine oT (.agg [.sl 3 (List.map z8 a0.fRest),dN a0.fWhich]) (fun _ _=>OpR.assert Z Z Z) ?_;refine oT (.sl 2 (List.map za [a0])) (fun _ _=>yN Z Z Z Z Z Z Z) ?_;refine zi true ?_ (fun D hA env1 x j hj hD=>match j,hj,hD with|0,_,_=>Z|1,_,_=>Z|2,_,_=>Z|3,_,_=>Z|4,_,_=>Z|5,_,_=>Z|6,_,_=>Z|7,_,_=>Z|8,hj,_=>absurd Z hj|9,_,_=>Z|10,_,_=>Z|11,_,_=>Z|_+12,_,_=>Z) ?_
 ·intro D env1 hA;have e11:D 11=false:=hA.no 11 _ rfl rfl;exact zK [(11,false),(8,false)] ⟨e11,hA.me,trivial⟩ (Want.plain Z) (zM (m:=[a0]) za 1 hx2 Z Z Z Z Z Z Z Z Z (fun _=>Z)) (fun x=>Z) (fun x=>Z)
 iterate 2 refine aC ?_
 refine zi true ?_ (fun _ _ _ _ _ _ _=>Z) ?_
 ·intro D env1 hA;have e8:D 8=true:=hA.yes 8 _ rfl rfl;exact zK [(8,true),(11,false)] ⟨e8,hA.me,trivial⟩ (Want.plain Z) (OpR.store 0 Z Z Z Z Z Z Z Z) (fun x=>Z) (fun x=>Z)
 exact trivial
noncomputable def xI (a0:List merge_run_damier_row_Row) (a1:List order_By) (a2:List UInt8):Option Int:=
 some (a0.length:Int)
theorem wD {a0:List merge_run_damier_row_Row} {a1:List order_By} {a2:List UInt8} {b0:Nat} {v1:Value} {b2:Nat} {b3:Nat} {b4:Nat} {v5:Value} {res:Int} (h0:xI a0 a1 a2=some res):zo X 242 [dP b0] [.var b0 [.val v1,.fn (.func 170) [] [dP b2,dP b3]] 321,.row v1 (List.map za a0) 2 324,.var b2 [.sl 2 (List.map zg a1)] 104,.var b3 [dP b4] 28,.var b4 [.val v5] 264,.row v5 (lB a2) 1 5] (fun x=>(dN res)) (fun x=>[.var b0 [.val v1,.fn (.func 170) [] [dP b2,dP b3]] 321,.row v1 (List.map za a0) 2 324,.var b2 [.sl 2 (List.map zg a1)] 104,.var b3 [dP b4] 28,.var b4 [.val v5] 264,.row v5 (lB a2) 1 5]):=by
 unfold xI at h0;refine zb (X:=X) Z Tryz.func242 Z Z Tryz.ntmps242 Z Z ?_;refine aS ?_;refine aA Z Z ?_;refine aN Z ?_;refine aS ?_;iterate 3 refine aA rfl rfl ?_
 refine z6 (z7 0 Z Z Z Z) Z ?_;refine z6 (yH za 1 Z Z Z Z) Z ?_;refine aA Z Z ?_;refine aN Z ?_;refine T.ret ?_;obtain rfl:=osi h0;exact rO [0,1,2,3,4,5] [2] Z undef (cT Z ResL.nil) Z Z Z Z
noncomputable def xV (a0:Int) (a1:Int) (a2:List merge_run_damier_row_Row) (a3:List order_By) (a4:List UInt8):Option Bool:=
 bnd (idx a2 a0) fun x2=>
 bnd (idx a2 a1) fun x3=>
 bnd (idx x2.fRest 0) fun x5=>
 bnd (idx x3.fRest 0) fun x6=>
 bnd (yj x5 x6 a3 a4) fun x7=>
 if x7=0 then
 some (decide (x2.fWhich<x3.fWhich))
else
 some (decide (x7<0))
theorem vu {a0:Int} {a1:Int} {a2:List merge_run_damier_row_Row} {a3:List order_By} {a4:List UInt8} {b0:Nat} {v1:Value} {b2:Nat} {b3:Nat} {b4:Nat} {v5:Value} {res:Bool} (h0:xV a0 a1 a2 a3 a4=some res):zo X 298 [dP b0,dN a0,dN a1] [.var b0 [.val v1,.fn (.func 170) [] [dP b2,dP b3]] 321,.row v1 (List.map za a2) 2 324,.var b2 [.sl 2 (List.map zg a3)] 104,.var b3 [dP b4] 28,.var b4 [.val v5] 264,.row v5 (lB a4) 1 5] (fun x=>(dT res)) (fun x=>[.var b0 [.val v1,.fn (.func 170) [] [dP b2,dP b3]] 321,.row v1 (List.map za a2) 2 324,.var b2 [.sl 2 (List.map zg a3)] 104,.var b3 [dP b4] 28,.var b4 [.val v5] 264,.row v5 (lB a4) 1 5]):=by
 unfold xV at h0;refine zb (X:=X) Z Tryz.func298 Z Z Tryz.ntmps298 Z Z ?_;refine aS ?_;refine aA Z Z ?_;refine aN Z ?_;refine T.seq ?_;obtain⟨x2,hx2,h0⟩:=bS h0;obtain⟨x3,hx3,h0⟩:=bS h0;refine yA zV (fun env1=>[dP b0,dP b0,dP b0,.val v1,dN a0,.val (.pointer (some ⟨blk v1,a0.toNat*2,none⟩)),.agg [.sl 3 (List.map z8 x2.fRest),dN x2.fWhich],dP b0,dP b0,dP b0,.val v1,dN a1,.val (.pointer (some ⟨blk v1,a1.toNat*2,none⟩)),.agg [.sl 3 (List.map z8 x3.fRest),dN x3.fWhich],dP (blk (env1 14)),dP (blk (env1 15)),.dead,.dead]) (fun D env1=>[.var b0 [.val v1,.fn (.func 170) [] [dP b2,dP b3]] 321,.row v1 (List.map za a2) 2 324,.var b2 [.sl 2 (List.map zg a3)] 104,.var b3 [dP b4] 28,.var b4 [.val v5] 264,.row v5 (lB a4) 1 5]++(bif D 14 then [(bif D 16 then .var (blk (env1 14)) [.sl 3 (List.map z8 x2.fRest),dN x2.fWhich] 324 else .var (blk (env1 14)) [.val (.slice none 0 0),dN 0] 324)] else [])++(bif D 15 then [(bif D 17 then .var (blk (env1 15)) [.sl 3 (List.map z8 x3.fRest),dN x3.fWhich] 324 else .var (blk (env1 15)) [.val (.slice none 0 0),dN 0] 324)] else [])) [0,1,3,7,0,31,63,0,128,384,896,0,3968,8064,0,0,49279,131071] [0,6,7,8] _ (by decide +kernel) (by decide +kernel) (fun _=>Z) (fun _=>Z) ?_ (fun _=>Z) (fun _=>Z) ?_;rotate_left
 ·intro env1;show T X _ _ _;refine T.seq ?_;refine T.seq ?_;obtain⟨x5,hx5,h0⟩:=bS h0;obtain⟨x6,hx6,h0⟩:=bS h0;obtain⟨x7,hx7,h0⟩:=bS h0;refine yr zV [dP b0,dP b0,.val (.pointer (some ⟨b0,1,none⟩)),.fn (.func 170) [] [dP b2,dP b3],dP (blk (env1 14)),.sl 3 (List.map z8 x2.fRest),.nod [.sl 5 (List.map zj x5.fCells),dN x5.fEnd,dT x5.fHidden],.agg [.sl 5 (List.map zj x5.fCells),dN x5.fEnd,dT x5.fHidden],dP (blk (env1 15)),.sl 3 (List.map z8 x3.fRest),.nod [.sl 5 (List.map zj x6.fCells),dN x6.fEnd,dT x6.fHidden],.agg [.sl 5 (List.map zj x6.fCells),dN x6.fEnd,dT x6.fHidden],dN x7,dN x7] [6,7,8,9] (by decide +kernel) Z ?_ Z ?_
  ·iterate 3 refine aB rfl rfl rfl ?_
   refine zw.yes (Want.plain Z) Z (z7 0 Z Z Z Z) ?_;refine aB Z Z Z ?_;refine zw.yes (Want.plain Z) Z (z7 6 Z Z Z Z) ?_;refine zw.yes (Want.plain Z) Z (zp z8 hx5 Z Z Z Z Z) ?_;iterate 2 refine aB rfl rfl rfl ?_
   refine zw.yes (Want.plain Z) Z (z7 7 Z Z Z Z) ?_;refine zw.yes (Want.plain Z) Z (zp z8 hx6 Z Z Z Z Z) ?_;refine aB Z Z Z ?_;refine zw.yes (Want.plain Z) Z (vX [2,3,4,5] Z fn170 (vU hx7) Z Z Z (fun _=>Z)) ?_;refine aB Z Z Z ?_;exact zw.nil
  show T X _ _ _;refine aS ?_;iterate 2 refine aA rfl rfl ?_
  refine aN Z ?_;rcases z9 h0 with ⟨c8,h0⟩|⟨c8,h0⟩;rotate_left
  ·refine zf Z (zR (beq_eq_false_iff_ne.2 c8)) ?_;refine aS ?_;iterate 3 refine aA rfl rfl ?_
   refine aN Z ?_;refine T.ret ?_;obtain rfl:=osi h0;exact rP [0,1,2,3,4,5] [6] [0,1,2,3,4,5] Z Z Z undef (cT Z ResL.nil) Z Z Z Z
  refine ze Z (zQ (beq_iff_eq.2 c8)) ?_;refine aK Z ?_;refine aS ?_;refine aA Z Z ?_;refine z6 (z7 6 Z Z Z Z) Z ?_;refine aA Z Z ?_;refine z6 (z7 7 Z Z Z Z) Z ?_;iterate 2 refine aA rfl rfl ?_
  refine aN Z ?_;refine T.ret ?_;obtain rfl:=osi h0;exact rP [0,1,2,3,4,5] [6] [0,1,2,3,4,5] Z Z Z undef (cT Z ResL.nil) Z Z Z Z
 iterate 3 refine aC ?_
 refine oT (.val v1) (fun _ _=>z7 0 Z Z Z Z) ?_;refine aC ?_;refine oT (.val (.pointer (some ⟨blk v1,a0.toNat*2,none⟩))) (fun _ _=>zO za 1 hx2 Z Z Z Z Z Z Z) ?_;refine oT (.agg [.sl 3 (List.map z8 x2.fRest),dN x2.fWhich]) (fun _ _=>zH (j:=a0) za 1 hx2 Z Z Z Z) ?_;iterate 3 refine aC ?_
 refine oT (.val v1) (fun _ _=>z7 0 Z Z Z Z) ?_;refine aC ?_;refine oT (.val (.pointer (some ⟨blk v1,a1.toNat*2,none⟩))) (fun _ _=>zO za 1 hx3 Z Z Z Z Z Z Z) ?_;refine oT (.agg [.sl 3 (List.map z8 x3.fRest),dN x3.fWhich]) (fun _ _=>zH (j:=a1) za 1 hx3 Z Z Z Z) ?_;refine zi true ?_ (fun D hA env1 x j hj hD=>match j,hj,hD with|0,_,_=>Z|1,_,_=>Z|2,_,_=>Z|3,_,_=>Z|4,_,_=>Z|5,_,_=>Z|6,_,_=>Z|7,_,_=>Z|8,_,_=>Z|9,_,_=>Z|10,_,_=>Z|11,_,_=>Z|12,_,_=>Z|13,_,_=>Z|14,hj,_=>absurd Z hj|15,_,_=>Z|16,_,_=>Z|17,_,_=>Z|_+18,_,_=>Z) ?_
 ·intro D env1 hA;have e16:D 16=false:=hA.no 16 _ rfl rfl;have e17:D 17=false:=hA.no 17 _ rfl rfl;rcases Bool.eq_false_or_eq_true (D 15) with e15|e15;rotate_left
  ·exact zK [(16,false),(17,false),(15,false),(14,false)] ⟨e16,e17,e15,hA.me,trivial⟩ (Want.plain Z) (OpR.alloc Z Z (fun _=>Z)) (fun x=>Z) (fun x=>Z)
  exact zK [(16,false),(17,false),(15,true),(14,false)] ⟨e16,e17,e15,hA.me,trivial⟩ (Want.plain Z) (OpR.pick [0,1,2,3,4,5,7,6] (OpR.alloc Z Z (fun _=>Z)) (fun _=>Z) Z) (fun x=>Z) (fun x=>Z)
 refine zi true ?_ (fun D hA env1 x j hj hD=>match j,hj,hD with|0,_,_=>Z|1,_,_=>Z|2,_,_=>Z|3,_,_=>Z|4,_,_=>Z|5,_,_=>Z|6,_,_=>Z|7,_,_=>Z|8,_,_=>Z|9,_,_=>Z|10,_,_=>Z|11,_,_=>Z|12,_,_=>Z|13,_,_=>Z|14,_,_=>Z|15,hj,_=>absurd Z hj|16,_,_=>Z|17,_,_=>Z|_+18,_,_=>Z) ?_
 ·intro D env1 hA;have e16:D 16=false:=hA.no 16 _ rfl rfl;have e17:D 17=false:=hA.no 17 _ rfl rfl;rcases Bool.eq_false_or_eq_true (D 14) with e14|e14
  ·exact zK [(16,false),(17,false),(14,true),(15,false)] ⟨e16,e17,e14,hA.me,trivial⟩ (Want.plain Z) (OpR.alloc Z Z (fun _=>Z)) (fun x=>Z) (fun x=>Z)
  exact zK [(16,false),(17,false),(14,false),(15,false)] ⟨e16,e17,e14,hA.me,trivial⟩ (Want.plain Z) (OpR.alloc Z Z (fun _=>Z)) (fun x=>Z) (fun x=>Z)
 refine zi true ?_ (fun _ _ _ _ _ _ _=>Z) ?_
 ·intro D env1 hA;have e14:D 14=true:=hA.yes 14 _ rfl rfl;have e15:D 15=true:=hA.yes 15 _ rfl rfl;have e17:D 17=false:=hA.no 17 _ rfl rfl;exact zK [(14,true),(15,true),(17,false),(16,false)] ⟨e14,e15,e17,hA.me,trivial⟩ (Want.plain Z) (OpR.store 6 Z Z Z Z Z Z Z Z) (fun x=>Z) (fun x=>Z)
 refine zi true ?_ (fun _ _ _ _ _ _ _=>Z) ?_
 ·intro D env1 hA;have e14:D 14=true:=hA.yes 14 _ rfl rfl;have e15:D 15=true:=hA.yes 15 _ rfl rfl;have e16:D 16=true:=hA.yes 16 _ rfl rfl;exact zK [(14,true),(15,true),(16,true),(17,false)] ⟨e14,e15,e16,hA.me,trivial⟩ (Want.plain Z) (OpR.store 7 Z Z Z Z Z Z Z Z) (fun x=>Z) (fun x=>Z)
 exact trivial
noncomputable def xU (a0:Int) (a1:Int) (a2:List merge_run_damier_row_Row) (a3:List order_By) (a4:List UInt8):Option (List merge_run_damier_row_Row):=
 bnd (idx a2 a1) fun x2=>
 bnd (idx a2 a0) fun x3=>
 bnd (idx (a2.set a0.toNat x2) a1) fun x4=>
 some ((a2.set a0.toNat x2).set a1.toNat x3)
theorem vq {a0:Int} {a1:Int} {a2:List merge_run_damier_row_Row} {a3:List order_By} {a4:List UInt8} {b0:Nat} {v1:Value} {b2:Nat} {b3:Nat} {b4:Nat} {v5:Value} {res:(List merge_run_damier_row_Row)} (h0:xU a0 a1 a2 a3 a4=some res):zo X 301 [dP b0,dN a0,dN a1] [.var b0 [.val v1,.fn (.func 170) [] [dP b2,dP b3]] 321,.row v1 (List.map za a2) 2 324,.var b2 [.sl 2 (List.map zg a3)] 104,.var b3 [dP b4] 28,.var b4 [.val v5] 264,.row v5 (lB a4) 1 5] (fun x=>.tup []) (fun x=>[.var b0 [.val v1,.fn (.func 170) [] [dP b2,dP b3]] 321,.row v1 (List.map za res) 2 324,.var b2 [.sl 2 (List.map zg a3)] 104,.var b3 [dP b4] 28,.var b4 [.val v5] 264,.row v5 (lB a4) 1 5]):=by
 unfold xU at h0;refine zb (X:=X) Z Tryz.func301 Z Z Tryz.ntmps301 Z Z ?_;obtain⟨x2,hx2,h0⟩:=bS h0;obtain⟨x3,hx3,h0⟩:=bS h0;obtain⟨x4,hx4,h0⟩:=bS h0;refine yA zV (fun env1=>[dP b0,dP b0,dP b0,.val v1,dN a0,dP b0,dP b0,dP b0,.val v1,dN a1,dP b0,dP b0,dP b0,.val v1,dN a1,.val (.pointer (some ⟨blk v1,a1.toNat*2,none⟩)),.agg [.sl 3 (List.map z8 x2.fRest),dN x2.fWhich],dP b0,dP b0,dP b0,.val v1,dN a0,.val (.pointer (some ⟨blk v1,a0.toNat*2,none⟩)),.agg [.sl 3 (List.map z8 x3.fRest),dN x3.fWhich],.val (.pointer (some ⟨blk v1,a0.toNat*2,none⟩)),.dead,.val (.pointer (some ⟨blk v1,a1.toNat*2,none⟩)),.dead]) (fun D env1=>[.var b0 [.val v1,.fn (.func 170) [] [dP b2,dP b3]] 321,(bif D 27 then .row v1 (List.map za ((a2.set a0.toNat x2).set a1.toNat x3)) 2 324 else bif D 25 then .row v1 (List.map za (a2.set a0.toNat x2)) 2 324 else .row v1 (List.map za a2) 2 324),.var b2 [.sl 2 (List.map zg a3)] 104,.var b3 [dP b4] 28,.var b4 [.val v5] 264,.row v5 (lB a4) 1 5]) [0,1,3,7,0,0,32,96,224,0,0,1024,3072,7168,0,31744,64512,0,131072,393216,917504,0,4063232,8257536,16776703,33553919,67108863,134217727] [] _ (by decide +kernel) (by decide +kernel) (fun _=>Z) (fun _=>Z) ?_ (fun _=>Z) (fun _=>Z) ?_;rotate_left
 ·intro env1;obtain rfl:=osi h0;exact xg (ks:=[0,1,2,3,4,5]) (Gst.only [] Z) undef ResL.nil Z Z Z Z
 iterate 3 refine aC ?_
 refine oT (.val v1) (fun _ _=>z7 0 Z Z Z Z) ?_;iterate 4 refine aC ?_
 refine oT (.val v1) (fun _ _=>z7 0 Z Z Z Z) ?_;iterate 4 refine aC ?_
 refine oT (.val v1) (fun _ _=>z7 0 Z Z Z Z) ?_;refine aC ?_;refine zi true ?_ (fun _ _ _ _ _ _ _=>Z) ?_
 ·intro D env1 hA;have e25:D 25=false:=hA.no 25 _ rfl rfl;have e27:D 27=false:=hA.no 27 _ rfl rfl;exact zK [(25,false),(27,false)] ⟨e25,e27,trivial⟩ (Want.plain Z) (zO za 1 hx2 Z Z Z Z Z Z Z) (fun x=>Z) (fun x=>Z)
 refine zi true ?_ (fun _ _ _ _ _ _ _=>Z) ?_
 ·intro D env1 hA;have e25:D 25=false:=hA.no 25 _ rfl rfl;have e27:D 27=false:=hA.no 27 _ rfl rfl;exact zK [(25,false),(27,false)] ⟨e25,e27,trivial⟩ (Want.plain Z) (zH (j:=a1) za 1 hx2 Z Z Z Z) (fun x=>Z) (fun x=>Z)
 iterate 3 refine aC ?_
 refine oT (.val v1) (fun _ _=>z7 0 Z Z Z Z) ?_;refine aC ?_;refine zi true ?_ (fun _ _ _ _ _ _ _=>Z) ?_
 ·intro D env1 hA;have e25:D 25=false:=hA.no 25 _ rfl rfl;have e27:D 27=false:=hA.no 27 _ rfl rfl;exact zK [(25,false),(27,false)] ⟨e25,e27,trivial⟩ (Want.plain Z) (zO za 1 hx3 Z Z Z Z Z Z Z) (fun x=>Z) (fun x=>Z)
 refine zi true ?_ (fun _ _ _ _ _ _ _=>Z) ?_
 ·intro D env1 hA;have e25:D 25=false:=hA.no 25 _ rfl rfl;have e27:D 27=false:=hA.no 27 _ rfl rfl;exact zK [(25,false),(27,false)] ⟨e25,e27,trivial⟩ (Want.plain Z) (zH (j:=a0) za 1 hx3 Z Z Z Z) (fun x=>Z) (fun x=>Z)
 refine zi true ?_ (fun _ _ _ _ _ _ _=>Z) ?_
 ·intro D env1 hA;have e25:D 25=false:=hA.no 25 _ rfl rfl;have e27:D 27=false:=hA.no 27 _ rfl rfl;exact zK [(25,false),(27,false)] ⟨e25,e27,trivial⟩ (Want.plain Z) (zO za 1 hx3 Z Z Z Z Z Z Z) (fun x=>Z) (fun x=>Z)
 refine zi true ?_ (fun _ _ _ _ _ _ _=>Z) ?_
 ·intro D env1 hA;have e27:D 27=false:=hA.no 27 _ rfl rfl;exact zK [(27,false),(25,false)] ⟨e27,hA.me,trivial⟩ (Want.plain Z) (yD (j:=a0) za x2 1 hx3 Z Z Z Z Z Z Z Z Z) (fun x=>Z) (fun x=>Z)
 refine zi true ?_ (fun _ _ _ _ _ _ _=>Z) ?_
 ·intro D env1 hA;have e25:D 25=true:=hA.yes 25 _ rfl rfl;have e27:D 27=false:=hA.no 27 _ rfl rfl;exact zK [(25,true),(27,false)] ⟨e25,e27,trivial⟩ (Want.plain Z) (zO za 1 hx4 Z Z Z Z Z Z Z) (fun x=>Z) (fun x=>Z)
 refine zi true ?_ (fun _ _ _ _ _ _ _=>Z) ?_
 ·intro D env1 hA;have e25:D 25=true:=hA.yes 25 _ rfl rfl;exact zK [(25,true),(27,false)] ⟨e25,hA.me,trivial⟩ (Want.plain Z) (yD (j:=a1) za x3 1 hx4 Z Z Z Z Z Z Z Z Z) (fun x=>Z) (fun x=>Z)
 exact trivial
noncomputable def xq.l1 (a2:List order_By) (a3:List UInt8) (s2:Int × (List merge_run_damier_row_Row)):Option (Lp (Int × (List merge_run_damier_row_Row)) (List merge_run_damier_row_Row)):=
 bnd (if (w64 (quo (w64 (s2.1-1)) 1))=s2.1 then
 some true
else
 bnd (xV s2.1 (w64 (quo (w64 (s2.1-1)) 1)) s2.2 a2 a3) fun x12=>
 some (!x12):Option Bool) fun t10=>
 if t10=true then
 some (Lp.done s2.2)
else
 bnd (xU (w64 (quo (w64 (s2.1-1)) 1)) s2.1 s2.2 a2 a3) fun x14=>
 some (Lp.next (w64 (quo (w64 (s2.1-1)) 1),x14))
noncomputable def xq (a0:Int) (a1:List merge_run_damier_row_Row) (a2:List order_By) (a3:List UInt8):Option (List merge_run_damier_row_Row):=
 bnd (loop (xq.l1 a2 a3) (a0,a1):Option (List merge_run_damier_row_Row)) fun t1=>
 some t1
theorem tJ {a0:Int} {a1:List merge_run_damier_row_Row} {a2:List order_By} {a3:List UInt8} {b0:Nat} {v1:Value} {b2:Nat} {b3:Nat} {b4:Nat} {v5:Value} {res:(List merge_run_damier_row_Row)} (h0:xq a0 a1 a2 a3=some res):zo X 264 [.ifc 318 (dP b0),dN a0] [.var b0 [.val v1,.fn (.func 170) [] [dP b2,dP b3]] 321,.row v1 (List.map za a1) 2 324,.var b2 [.sl 2 (List.map zg a2)] 104,.var b3 [dP b4] 28,.var b4 [.val v5] 264,.row v5 (lB a3) 1 5] (fun x=>.tup []) (fun x=>[.var b0 [.val v1,.fn (.func 170) [] [dP b2,dP b3]] 321,.row v1 (List.map za res) 2 324,.var b2 [.sl 2 (List.map zg a2)] 104,.var b3 [dP b4] 28,.var b4 [.val v5] 264,.row v5 (lB a3) 1 5]):=by
 unfold xq at h0;refine zb (X:=X) Z Tryz.func264 Z Z Tryz.ntmps264 Z Z ?_;obtain⟨t1,ht1,h0⟩:=bS h0;refine T.cutN (fun S'=>S'=⟨[],[.var b0 [.val v1,.fn (.func 170) [] [dP b2,dP b3]] 321,.row v1 (List.map za t1) 2 324,.var b2 [.sl 2 (List.map zg a2)] 104,.var b3 [dP b4] 28,.var b4 [.val v5] 264,.row v5 (lB a3) 1 5],23⟩) (fun _ _ g ⟨h,S',ds,g',r⟩=>⟨h,S',ds,Gst.trans g g',r⟩) ?_ ?_;rotate_left
 ·rintro _ rfl;obtain rfl:=osi h0;exact xg (ks:=[0,1,2,3,4,5]) (Gst.only [] Z) undef ResL.nil Z Z Z Z
 refine T.block ?_;obtain⟨n3,n8⟩:=zy ht1;refine T.loop (fun n S'=>∃ S'',Gst S' S''∧∃ s2:Int × (List merge_run_damier_row_Row),S''=⟨[(1,(dN s2.1)),(0,.ifc 318 (dP b0))],[.var b0 [.val v1,.fn (.func 170) [] [dP b2,dP b3]] 321,.row v1 (List.map za s2.2) 2 324,.var b2 [.sl 2 (List.map zg a2)] 104,.var b3 [dP b4] 28,.var b4 [.val v5] 264,.row v5 (lB a3) 1 5],23⟩∧wo (xq.l1 a2 a3) n s2=some t1) n3 ?_ ?_
 ·exact⟨_,Gst.only [0,1] Z,(a0,a1),Z,n8⟩
 rintro n3 _ ⟨_,g,s2,rfl,i7⟩;refine T.ghost g ?_;obtain⟨m4,q5,rfl,q6,i7⟩:=zz i7;unfold xq.l1 at q6;refine T.block ?_;refine aS ?_;iterate 4 refine aA rfl rfl ?_
 refine aN Z ?_;refine T.seq ?_;refine T.seq ?_;obtain⟨t10,ht10,q6⟩:=bS q6;refine zA (fun S'=>S'=⟨[(17,(dT t10)),(4,(dN (w64 (quo (w64 (s2.1-1)) 1)))),(1,(dN s2.1)),(0,.ifc 318 (dP b0))],[.var b0 [.val v1,.fn (.func 170) [] [dP b2,dP b3]] 321,.row v1 (List.map za s2.2) 2 324,.var b2 [.sl 2 (List.map zg a2)] 104,.var b3 [dP b4] 28,.var b4 [.val v5] 264,.row v5 (lB a3) 1 5],23⟩) (fun _ h=>h) ?_ ?_;rotate_left
 ·rintro _ rfl;show T X _ _ _;rcases z9 q6 with ⟨c13,q6⟩|⟨c13,q6⟩
  ·refine zf Z (c13) ?_;refine T.exit ?_;obtain rfl:=osi q6;obtain rfl:_=_:=i7;exact⟨_,Gst.only [] Z,Z⟩
  refine ze Z (eN c13) ?_;refine aK Z ?_;refine aS ?_;iterate 3 refine aA rfl rfl ?_
  obtain⟨x14,hx14,q6⟩:=bS q6;refine z6 (xC [0,1,2,3,4,5] Z mt318_Swap fn301 (vq hx14) Z Z Z (fun _=>Z)) Z ?_;refine aN Z ?_;refine T.region ?_;iterate 2 refine aA rfl rfl ?_
  refine TL.nil ?_;obtain rfl:=osi q6;exact⟨m4,Nat.lt_succ_self _,_,Gst.only [0,1] Z,(w64 (quo (w64 (s2.1-1)) 1),x14),Z,i7⟩
 refine T.region ?_;iterate 4 refine aA rfl rfl ?_
 rcases z9 ht10 with ⟨c11,ht10⟩|⟨c11,ht10⟩
 ·refine TL.off Z Z Z Z (beq_iff_eq.2 c11) Z Z ?_;refine TL.off Z Z Z Z (beq_iff_eq.2 c11) Z Z ?_;refine TL.off Z Z Z Z (beq_iff_eq.2 c11) Z Z ?_;refine TL.off Z Z Z Z (beq_iff_eq.2 c11) Z Z ?_;refine TL.off Z Z Z Z (beq_iff_eq.2 c11) Z Z ?_;refine z6 (zt Z (beq_iff_eq.2 c11) Z) Z ?_;refine TL.nil ?_;obtain rfl:=osi ht10;exact⟨_,Gst.only [0,1,4,17] Z,Z⟩
 refine TL.on Z Z Z Z (beq_eq_false_iff_ne.2 c11) ?_;refine aA Z Z ?_;refine TL.on Z Z Z Z (beq_eq_false_iff_ne.2 c11) ?_;refine aA Z Z ?_;refine TL.on Z Z Z Z (beq_eq_false_iff_ne.2 c11) ?_;refine aA Z Z ?_;refine TL.on Z Z Z Z (beq_eq_false_iff_ne.2 c11) ?_;obtain⟨x12,hx12,ht10⟩:=bS ht10;refine z6 (xC [0,1,2,3,4,5] Z mt318_Less fn298 (vu hx12) Z Z Z (fun _=>Z)) Z ?_;refine TL.on Z Z Z Z (beq_eq_false_iff_ne.2 c11) ?_;refine aA Z Z ?_;refine z6 (zx Z (beq_eq_false_iff_ne.2 c11) Z) Z ?_;refine TL.nil ?_;obtain rfl:=osi ht10;exact⟨_,Gst.only [0,1,4,17] Z,Z⟩
noncomputable def uh (a0:merge_run_damier_row_Row) (a1:List merge_run_damier_row_Row) (a2:List order_By) (a3:List UInt8):Option (List merge_run_damier_row_Row):=
 bnd (vt a0 a1 a2 a3) fun x1=>
 bnd (xI x1 a2 a3) fun x3=>
 bnd (xq (w64 (x3-1)) x1 a2 a3) fun x4=>
 some x4
theorem rK {a0:merge_run_damier_row_Row} {a1:List merge_run_damier_row_Row} {a2:List order_By} {a3:List UInt8} {b0:Nat} {v1:Value} {b2:Nat} {b3:Nat} {b4:Nat} {v5:Value} {res:(List merge_run_damier_row_Row)} (h0:uh a0 a1 a2 a3=some res):zo X 241 [.ifc 318 (dP b0),.ifc 324 (.agg [.sl 3 (List.map z8 a0.fRest),dN a0.fWhich])] [.var b0 [.val v1,.fn (.func 170) [] [dP b2,dP b3]] 321,.row v1 (List.map za a1) 2 324,.var b2 [.sl 2 (List.map zg a2)] 104,.var b3 [dP b4] 28,.var b4 [.val v5] 264,.row v5 (lB a3) 1 5] (fun x=>.tup []) (fun x=>[.var b0 [.val (vn x 0),.fn (.func 170) [] [dP b2,dP b3]] 321,.row (vn x 0) (List.map za res) 2 324,.var b2 [.sl 2 (List.map zg a2)] 104,.var b3 [dP b4] 28,.var b4 [.val v5] 264,.row v5 (lB a3) 1 5]):=by
 unfold uh at h0;refine zb (X:=X) Z Tryz.func241 Z Z Tryz.ntmps241 Z Z ?_;refine aS ?_;iterate 2 refine aA rfl rfl ?_
 obtain⟨x1,hx1,h0⟩:=bS h0;refine TL.op (xC [0,1,2,3,4,5] Z mt318_Push fn300 (sI hx1) Z Z Z (fun _=>Z)) Z (fun w2=>?_);refine aN Z ?_;refine T.region ?_;iterate 2 refine aA rfl rfl ?_
 obtain⟨x3,hx3,h0⟩:=bS h0;refine z6 (xC [0,1,2,3,4,5] Z mt318_Len fn242 (wD hx3) Z Z Z (fun _=>Z)) Z ?_;refine aA Z Z ?_;obtain⟨x4,hx4,h0⟩:=bS h0;refine z6 (OpR.call [0,1,2,3,4,5] fn264 (tJ hx4) Z Z Z (fun _=>Z)) Z ?_;refine TL.nil ?_;obtain rfl:=osi h0;exact xg (ks:=[0,1,2,3,4,5]) (Gst.only [] Z) (.tuple #[(vn w2 0)]) ResL.nil Z Z Z Z
noncomputable def xc.l1 (a1:Int) (a3:List order_By) (a4:List UInt8) (s2:Int × (List merge_run_damier_row_Row)):Option (Lp (Int × (List merge_run_damier_row_Row)) (Int × (List merge_run_damier_row_Row))):=
 bnd (if (w64 ((w64 (2*s2.1))+1))≥a1 then
 some true
else
 some (decide ((w64 ((w64 (2*s2.1))+1))<0)):Option Bool) fun t10=>
 if t10=true then
 some (Lp.done (s2.1,s2.2))
else
 bnd (if (w64 ((w64 ((w64 (2*s2.1))+1))+1))<a1 then
 bnd (xV (w64 ((w64 ((w64 (2*s2.1))+1))+1)) (w64 ((w64 (2*s2.1))+1)) s2.2 a3 a4) fun x15=>
 some x15
else
 some false:Option Bool) fun t13=>
 bnd (if t13=true then
 some (w64 ((w64 ((w64 (2*s2.1))+1))+1))
else
 some (w64 ((w64 (2*s2.1))+1)):Option Int) fun t16=>
 bnd (xV t16 s2.1 s2.2 a3 a4) fun x18=>
 if x18=true then
 bnd (xU s2.1 t16 s2.2 a3 a4) fun x20=>
 some (Lp.next (t16,x20))
else
 some (Lp.done (s2.1,s2.2))
noncomputable def xc (a0:Int) (a1:Int) (a2:List merge_run_damier_row_Row) (a3:List order_By) (a4:List UInt8):Option (Bool × (List merge_run_damier_row_Row)):=
 bnd (loop (xc.l1 a1 a3 a4) (a0,a2):Option (Int × (List merge_run_damier_row_Row))) fun t1=>
 some (decide (t1.1>a0),t1.2)
theorem tf {a0:Int} {a1:Int} {a2:List merge_run_damier_row_Row} {a3:List order_By} {a4:List UInt8} {b0:Nat} {v1:Value} {b2:Nat} {b3:Nat} {b4:Nat} {v5:Value} {res:Bool × (List merge_run_damier_row_Row)} (h0:xc a0 a1 a2 a3 a4=some res):zo X 265 [.ifc 318 (dP b0),dN a0,dN a1] [.var b0 [.val v1,.fn (.func 170) [] [dP b2,dP b3]] 321,.row v1 (List.map za a2) 2 324,.var b2 [.sl 2 (List.map zg a3)] 104,.var b3 [dP b4] 28,.var b4 [.val v5] 264,.row v5 (lB a4) 1 5] (fun x=>(dT res.1)) (fun x=>[.var b0 [.val v1,.fn (.func 170) [] [dP b2,dP b3]] 321,.row v1 (List.map za res.2) 2 324,.var b2 [.sl 2 (List.map zg a3)] 104,.var b3 [dP b4] 28,.var b4 [.val v5] 264,.row v5 (lB a4) 1 5]):=by
 unfold xc at h0;refine zb (X:=X) Z Tryz.func265 Z Z Tryz.ntmps265 Z Z ?_;refine aS ?_;refine aA Z Z ?_;refine aN Z ?_;refine aS ?_;iterate 2 refine aA rfl rfl ?_
 refine aN Z ?_;refine T.seq ?_;obtain⟨t1,ht1,h0⟩:=bS h0;refine zA (fun S'=>S'=⟨[(7,(dN t1.1)),(6,(dT false)),(1,(dN a0))],[.var b0 [.val v1,.fn (.func 170) [] [dP b2,dP b3]] 321,.row v1 (List.map za t1.2) 2 324,.var b2 [.sl 2 (List.map zg a3)] 104,.var b3 [dP b4] 28,.var b4 [.val v5] 264,.row v5 (lB a4) 1 5],48⟩) (fun _ h=>h) ?_ ?_;rotate_left
 ·rintro _ rfl;show T X _ _ _;refine aS ?_;iterate 4 refine aA rfl rfl ?_
  refine aN Z ?_;refine T.ret ?_;obtain rfl:=osi h0;exact rO [0,1,2,3,4,5] [6] Z undef (cT Z ResL.nil) Z Z Z Z
 refine T.block ?_;obtain⟨n3,n8⟩:=zy ht1;refine T.loop (fun n S'=>∃ S'',Gst S' S''∧∃ s2:Int × (List merge_run_damier_row_Row),S''=⟨[(7,(dN s2.1)),(6,(dT false)),(2,(dN a1)),(1,(dN a0)),(0,.ifc 318 (dP b0))],[.var b0 [.val v1,.fn (.func 170) [] [dP b2,dP b3]] 321,.row v1 (List.map za s2.2) 2 324,.var b2 [.sl 2 (List.map zg a3)] 104,.var b3 [dP b4] 28,.var b4 [.val v5] 264,.row v5 (lB a4) 1 5],48⟩∧wo (xc.l1 a1 a3 a4) n s2=some t1) n3 ?_ ?_
 ·exact⟨_,Gst.only [0,1,2,6,7] Z,(a0,a2),Z,n8⟩
 rintro n3 _ ⟨_,g,s2,rfl,i7⟩;refine T.ghost g ?_;obtain⟨m4,q5,rfl,q6,i7⟩:=zz i7;unfold xc.l1 at q6;refine T.block ?_;refine aS ?_;iterate 4 refine aA rfl rfl ?_
 refine aN Z ?_;refine T.seq ?_;refine T.seq ?_;obtain⟨t10,ht10,q6⟩:=bS q6;refine zA (fun S'=>S'=⟨[(21,(dT t10)),(8,(dN (w64 ((w64 (2*s2.1))+1)))),(7,(dN s2.1)),(6,(dT false)),(2,(dN a1)),(1,(dN a0)),(0,.ifc 318 (dP b0))],[.var b0 [.val v1,.fn (.func 170) [] [dP b2,dP b3]] 321,.row v1 (List.map za s2.2) 2 324,.var b2 [.sl 2 (List.map zg a3)] 104,.var b3 [dP b4] 28,.var b4 [.val v5] 264,.row v5 (lB a4) 1 5],48⟩) (fun _ h=>h) ?_ ?_
 ·refine T.region ?_;iterate 4 refine aA rfl rfl ?_
  rcases z9 ht10 with ⟨c11,ht10⟩|⟨c11,ht10⟩
  ·refine TL.off Z Z Z Z (eT c11) Z Z ?_;refine TL.off Z Z Z Z (eT c11) Z Z ?_;refine z6 (zt Z (eT c11) Z) Z ?_;refine TL.nil ?_;obtain rfl:=osi ht10;exact⟨_,Gst.only [0,1,2,6,7,8,21] Z,Z⟩
  refine TL.on Z Z Z Z (eF c11) ?_;refine aA Z Z ?_;refine TL.on Z Z Z Z (eF c11) ?_;refine aA Z Z ?_;refine z6 (zx Z (eF c11) Z) Z ?_;refine TL.nil ?_;obtain rfl:=osi ht10;exact⟨_,Gst.only [0,1,2,6,7,8,21] Z,Z⟩
 rintro _ rfl;show T X _ _ _;rcases z9 q6 with ⟨c12,q6⟩|⟨c12,q6⟩
 ·refine zf Z (c12) ?_;refine T.exit ?_;obtain rfl:=osi q6;obtain rfl:_=_:=i7;exact⟨_,Gst.only [1,6,7] Z,Z⟩
 refine ze Z (eN c12) ?_;refine aK Z ?_;refine aS ?_;iterate 2 refine aA rfl rfl ?_
 refine aN Z ?_;refine T.seq ?_;refine aS ?_;iterate 3 refine aA rfl rfl ?_
 refine aN Z ?_;refine T.seq ?_;obtain⟨t13,ht13,q6⟩:=bS q6;refine zA (fun S'=>S'=⟨[(33,(dT t13)),(10,(dN (w64 ((w64 ((w64 (2*s2.1))+1))+1)))),(9,(dN (w64 ((w64 (2*s2.1))+1)))),(7,(dN s2.1)),(6,(dT false)),(2,(dN a1)),(1,(dN a0)),(0,.ifc 318 (dP b0))],[.var b0 [.val v1,.fn (.func 170) [] [dP b2,dP b3]] 321,.row v1 (List.map za s2.2) 2 324,.var b2 [.sl 2 (List.map zg a3)] 104,.var b3 [dP b4] 28,.var b4 [.val v5] 264,.row v5 (lB a4) 1 5],48⟩) (fun _ h=>h) ?_ ?_
 ·refine T.region ?_;iterate 4 refine aA rfl rfl ?_
  rcases z9 ht13 with ⟨c14,ht13⟩|⟨c14,ht13⟩;rotate_left
  ·refine TL.off Z Z Z Z (eF c14) Z Z ?_;refine TL.off Z Z Z Z (eF c14) Z Z ?_;refine TL.off Z Z Z Z (eF c14) Z Z ?_;refine TL.off Z Z Z Z (eF c14) Z Z ?_;refine z6 (zx Z (eF c14) Z) Z ?_;refine TL.nil ?_;obtain rfl:=osi ht13;exact⟨_,Gst.only [0,1,2,6,7,9,10,33] Z,Z⟩
  refine TL.on Z Z Z Z (eT c14) ?_;refine aA Z Z ?_;refine TL.on Z Z Z Z (eT c14) ?_;refine aA Z Z ?_;refine TL.on Z Z Z Z (eT c14) ?_;refine aA Z Z ?_;refine TL.on Z Z Z Z (eT c14) ?_;obtain⟨x15,hx15,ht13⟩:=bS ht13;refine z6 (xC [0,1,2,3,4,5] Z mt318_Less fn298 (vu hx15) Z Z Z (fun _=>Z)) Z ?_;refine z6 (zt Z (eT c14) Z) Z ?_;refine TL.nil ?_;obtain rfl:=osi ht13;exact⟨_,Gst.only [0,1,2,6,7,9,10,33] Z,Z⟩
 rintro _ rfl;show T X _ _ _;obtain⟨t16,ht16,q6⟩:=bS q6;refine zA (fun S'=>S'=⟨[(9,(dN t16)),(7,(dN s2.1)),(6,(dT false)),(2,(dN a1)),(1,(dN a0)),(0,.ifc 318 (dP b0))],[.var b0 [.val v1,.fn (.func 170) [] [dP b2,dP b3]] 321,.row v1 (List.map za s2.2) 2 324,.var b2 [.sl 2 (List.map zg a3)] 104,.var b3 [dP b4] 28,.var b4 [.val v5] 264,.row v5 (lB a4) 1 5],48⟩) (fun _ h=>h) ?_ ?_
 ·rcases z9 ht16 with ⟨c17,ht16⟩|⟨c17,ht16⟩;rotate_left
  ·refine ze Z (eN c17) ?_;refine T.skip ?_;obtain rfl:=osi ht16;exact⟨_,Gst.only [0,1,2,6,7,9] Z,Z⟩
  refine zf Z (c17) ?_;refine T.region ?_;iterate 2 refine aA rfl rfl ?_
  refine TL.nil ?_;obtain rfl:=osi ht16;exact⟨_,Gst.only [0,1,2,6,7,9] Z,Z⟩
 rintro _ rfl;show T X _ _ _;refine T.seq ?_;refine aS ?_;iterate 3 refine aA rfl rfl ?_
 obtain⟨x18,hx18,q6⟩:=bS q6;refine z6 (xC [0,1,2,3,4,5] Z mt318_Less fn298 (vu hx18) Z Z Z (fun _=>Z)) Z ?_;refine aA Z Z ?_;refine aN Z ?_;rcases z9 q6 with ⟨c19,q6⟩|⟨c19,q6⟩;rotate_left
 ·refine zf Z (zR (eN c19)) ?_;refine T.exit ?_;obtain rfl:=osi q6;obtain rfl:_=_:=i7;exact⟨_,Gst.only [1,6,7] Z,Z⟩
 refine ze Z (zQ (c19)) ?_;refine aK Z ?_;refine aS ?_;iterate 3 refine aA rfl rfl ?_
 obtain⟨x20,hx20,q6⟩:=bS q6;refine z6 (xC [0,1,2,3,4,5] Z mt318_Swap fn301 (vq hx20) Z Z Z (fun _=>Z)) Z ?_;refine aN Z ?_;refine T.region ?_;iterate 2 refine aA rfl rfl ?_
 refine TL.nil ?_;obtain rfl:=osi q6;exact⟨m4,Nat.lt_succ_self _,_,Gst.only [0,1,2,6,7] Z,(t16,x20),Z,i7⟩
noncomputable def vQ (a0:List merge_run_damier_row_Row) (a1:List order_By) (a2:List UInt8):Option (merge_run_damier_row_Row × (List merge_run_damier_row_Row)):=
 bnd (idx a0 (w64 ((a0.length:Int)-1))) fun x1=>
 bnd (cut a0 0 (w64 ((a0.length:Int)-1))) fun x3=>
 some (x1,x3)
theorem rp {a0:List merge_run_damier_row_Row} {a1:List order_By} {a2:List UInt8} {b0:Nat} {v1:Value} {b2:Nat} {b3:Nat} {b4:Nat} {v5:Value} {res:merge_run_damier_row_Row × (List merge_run_damier_row_Row)} (h0:vQ a0 a1 a2=some res):zo X 299 [dP b0] [.var b0 [.val v1,.fn (.func 170) [] [dP b2,dP b3]] 321,.row v1 (List.map za a0) 2 324,.var b2 [.sl 2 (List.map zg a1)] 104,.var b3 [dP b4] 28,.var b4 [.val v5] 264,.row v5 (lB a2) 1 5] (fun x=>.ifc 324 (.agg [.sl 3 (List.map z8 res.1.fRest),dN res.1.fWhich])) (fun x=>[.var b0 [.val (vn x 0),.fn (.func 170) [] [dP b2,dP b3]] 321,.row (vn x 0) (List.map za res.2) 2 324,.var b2 [.sl 2 (List.map zg a1)] 104,.var b3 [dP b4] 28,.var b4 [.val v5] 264,.row v5 (lB a2) 1 5]):=by
 unfold vQ at h0;refine zb (X:=X) Z Tryz.func299 Z Z Tryz.ntmps299 Z Z ?_;refine aS ?_;refine aA Z Z ?_;refine aN Z ?_;refine aS ?_;iterate 3 refine aA rfl rfl ?_
 refine z6 (z7 0 Z Z Z Z) Z ?_;refine z6 (yH za 1 Z Z Z Z) Z ?_;iterate 2 refine aA rfl rfl ?_
 refine aN Z ?_;refine aS ?_;iterate 3 refine aA rfl rfl ?_
 refine z6 (z7 0 Z Z Z Z) Z ?_;refine aA Z Z ?_;obtain⟨x1,hx1,h0⟩:=bS h0;refine z6 (zO za 1 hx1 Z Z Z Z Z Z Z) Z ?_;refine z6 (zH (j:=w64 ((a0.length:Int)-1)) za 1 hx1 Z Z Z Z) Z ?_;refine TL.op (OpR.alloc Z Z (fun _=>Z)) Z (fun p2=>?_);refine zv (OpR.store 6 Z Z Z Z Z Z Z Z) ?_;refine aN Z ?_;refine aS ?_;iterate 4 refine aA rfl rfl ?_
 refine z6 (z7 0 Z Z Z Z) Z ?_;refine aA Z Z ?_;obtain⟨x3,hx3,h0⟩:=bS h0;refine z6 (wK za 1 hx3 Z Z Z Z Z Z BdM.none (BdM.some Z)) Z ?_;iterate 2 refine aA rfl rfl ?_
 refine zv (OpR.store 0 Z Z Z Z Z Z Z Z) ?_;refine aN Z ?_;refine T.ghost (qN (ow:=[.var b0 [.val (vw v1 (0:Int).toNat (w64 ((a0.length:Int)-1):Int).toNat 2),.fn (.func 170) [] [dP b2,dP b3]] 321,.row v1 (List.map za a0) 2 324,.var b2 [.sl 2 (List.map zg a1)] 104,.var b3 [dP b4] 28,.var b4 [.val v5] 264,.row v5 (lB a2) 1 5,.var (blk p2) [.sl 3 (List.map z8 x1.fRest),dN x1.fWhich] 324]) za 1 hx3 Z Z) ?_;refine aS ?_;refine z6 (z7 6 Z Z Z Z) Z ?_;refine z6 (ux Z Z Z) Z ?_;refine aA Z Z ?_;refine aN Z ?_;refine T.ret ?_;obtain rfl:=osi h0;exact rP [0,1,2,3,4,5] [2] [0,1,2,3,4,5] Z Z Z (.tuple #[(vw v1 (0:Int).toNat (w64 ((a0.length:Int)-1):Int).toNat 2)]) (cT Z ResL.nil) Z Z Z Z
noncomputable def ur (a0:List merge_run_damier_row_Row) (a1:List order_By) (a2:List UInt8):Option (merge_run_damier_row_Row × (List merge_run_damier_row_Row)):=
 bnd (xI a0 a1 a2) fun x1=>
 bnd (xU 0 (w64 (x1-1)) a0 a1 a2) fun x2=>
 bnd (xc 0 (w64 (x1-1)) x2 a1 a2) fun x3=>
 bnd (vQ x3.2 a1 a2) fun x4=>
 some (x4.1,x4.2)
theorem rX {a0:List merge_run_damier_row_Row} {a1:List order_By} {a2:List UInt8} {b0:Nat} {v1:Value} {b2:Nat} {b3:Nat} {b4:Nat} {v5:Value} {res:merge_run_damier_row_Row × (List merge_run_damier_row_Row)} (h0:ur a0 a1 a2=some res):zo X 243 [.ifc 318 (dP b0)] [.var b0 [.val v1,.fn (.func 170) [] [dP b2,dP b3]] 321,.row v1 (List.map za a0) 2 324,.var b2 [.sl 2 (List.map zg a1)] 104,.var b3 [dP b4] 28,.var b4 [.val v5] 264,.row v5 (lB a2) 1 5] (fun x=>.ifc 324 (.agg [.sl 3 (List.map z8 res.1.fRest),dN res.1.fWhich])) (fun x=>[.var b0 [.val (vn x 0),.fn (.func 170) [] [dP b2,dP b3]] 321,.row (vn x 0) (List.map za res.2) 2 324,.var b2 [.sl 2 (List.map zg a1)] 104,.var b3 [dP b4] 28,.var b4 [.val v5] 264,.row v5 (lB a2) 1 5]):=by
 unfold ur at h0;refine zb (X:=X) Z Tryz.func243 Z Z Tryz.ntmps243 Z Z ?_;refine aS ?_;refine aA Z Z ?_;refine aN Z ?_;refine aS ?_;refine aA Z Z ?_;obtain⟨x1,hx1,h0⟩:=bS h0;refine z6 (xC [0,1,2,3,4,5] Z mt318_Len fn242 (wD hx1) Z Z Z (fun _=>Z)) Z ?_;iterate 2 refine aA rfl rfl ?_
 refine aN Z ?_;refine aS ?_;iterate 2 refine aA rfl rfl ?_
 obtain⟨x2,hx2,h0⟩:=bS h0;refine z6 (xC [0,1,2,3,4,5] Z mt318_Swap fn301 (vq hx2) Z Z Z (fun _=>Z)) Z ?_;refine aN Z ?_;refine aS ?_;iterate 2 refine aA rfl rfl ?_
 obtain⟨x3,hx3,h0⟩:=bS h0;refine z6 (OpR.call [0,1,2,3,4,5] fn265 (tf hx3) Z Z Z (fun _=>Z)) Z ?_;refine aN Z ?_;refine aS ?_;refine aA Z Z ?_;obtain⟨x4,hx4,h0⟩:=bS h0;refine TL.op (xC [0,1,2,3,4,5] Z mt318_Pop fn299 (rp hx4) Z Z Z (fun _=>Z)) Z (fun w5=>?_);refine aA Z Z ?_;refine aN Z ?_;refine T.ret ?_;obtain rfl:=osi h0;exact rO [0,1,2,3,4,5] [2] Z (.tuple #[(vn w5 0)]) (cT Z ResL.nil) Z Z Z Z
noncomputable def ut (a0:Int) (a1:List merge_run_damier_row_Row) (a2:List order_By) (a3:List UInt8):Option (List merge_run_damier_row_Row):=
 bnd (xI a1 a2 a3) fun x1=>
 bnd (xc a0 x1 a1 a2 a3) fun x2=>
 if x2.1=true then
 some x2.2
else
 bnd (xq a0 x2.2 a2 a3) fun x4=>
 some x4
theorem rY {a0:Int} {a1:List merge_run_damier_row_Row} {a2:List order_By} {a3:List UInt8} {b0:Nat} {v1:Value} {b2:Nat} {b3:Nat} {b4:Nat} {v5:Value} {res:(List merge_run_damier_row_Row)} (h0:ut a0 a1 a2 a3=some res):zo X 244 [.ifc 318 (dP b0),dN a0] [.var b0 [.val v1,.fn (.func 170) [] [dP b2,dP b3]] 321,.row v1 (List.map za a1) 2 324,.var b2 [.sl 2 (List.map zg a2)] 104,.var b3 [dP b4] 28,.var b4 [.val v5] 264,.row v5 (lB a3) 1 5] (fun x=>.tup []) (fun x=>[.var b0 [.val v1,.fn (.func 170) [] [dP b2,dP b3]] 321,.row v1 (List.map za res) 2 324,.var b2 [.sl 2 (List.map zg a2)] 104,.var b3 [dP b4] 28,.var b4 [.val v5] 264,.row v5 (lB a3) 1 5]):=by
 unfold ut at h0;refine zb (X:=X) Z Tryz.func244 Z Z Tryz.ntmps244 Z Z ?_;refine aS ?_;iterate 3 refine aA rfl rfl ?_
 obtain⟨x1,hx1,h0⟩:=bS h0;refine z6 (xC [0,1,2,3,4,5] Z mt318_Len fn242 (wD hx1) Z Z Z (fun _=>Z)) Z ?_;obtain⟨x2,hx2,h0⟩:=bS h0;refine z6 (OpR.call [0,1,2,3,4,5] fn265 (tf hx2) Z Z Z (fun _=>Z)) Z ?_;refine aA Z Z ?_;refine aN Z ?_;rcases z9 h0 with ⟨c3,h0⟩|⟨c3,h0⟩
 ·refine ze Z (zQ (c3)) ?_;refine T.skip ?_;obtain rfl:=osi h0;exact xg (ks:=[0,1,2,3,4,5]) (Gst.only [] Z) undef ResL.nil Z Z Z Z
 refine zf Z (zR (eN c3)) ?_;refine T.region ?_;iterate 2 refine aA rfl rfl ?_
 obtain⟨x4,hx4,h0⟩:=bS h0;refine z6 (OpR.call [0,1,2,3,4,5] fn264 (tJ hx4) Z Z Z (fun _=>Z)) Z ?_;refine TL.nil ?_;obtain rfl:=osi h0;exact xg (ks:=[0,1,2,3,4,5]) (Gst.only [] Z) undef ResL.nil Z Z Z Z
end Go.Proofs.YtpmhiiemklhbhaaGreat.S
