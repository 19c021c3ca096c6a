import Derived.Test.YtpmhiiemklhbhaaGreatG1xd
import Derived.Test.YtpmhiiemklhbhaaGreatG1xc
import Derived.Test.YtpmhiiemklhbhaaGreatG1xa
import Derived.Test.YtpmhiiemklhbhaaGreatG1xb
set_option maxHeartbeats 4000000
set_option linter.unusedVariables false
set_option linter.unusedSimpArgs false
set_option maxRecDepth 20000
namespace Go.Proofs.YtpmhiiemklhbhaaGreat.S
open Go Go.Sm
attribute [local irreducible] T TL OpR CallT wo loop
noncomputable def yJ.l1 (a0:List (List row_Row)) (a2:List order_By) (a3:List UInt8) (s5:Int × (List merge_run_damier_row_Row)):Option (Lp (Int × (List merge_run_damier_row_Row)) (List merge_run_damier_row_Row)):=
 if s5.1<(a0.length:Int) then
 bnd (idx a0 s5.1) fun x14=>
 bnd (if (x14.length:Int)>0 then
 bnd (uh (⟨x14,s5.1⟩:merge_run_damier_row_Row) s5.2 a2 a3) fun x18=>
 some x18
else
 some s5.2:Option (List merge_run_damier_row_Row)) fun t15=>
 some (Lp.next (w64 (s5.1+1),t15))
else
 some (Lp.done s5.2)
noncomputable def yJ.l2 (a1:Int) (a2:List order_By) (a3:List UInt8) (s24:(List row_Row) × (List merge_run_damier_row_Row)):Option (Lp ((List row_Row) × (List merge_run_damier_row_Row)) (List row_Row)):=
 bnd (bnd (xI s24.2 a2 a3) fun x33=>
 if x33>0 then
 some (decide ((s24.1.length:Int)<a1))
else
 some false:Option Bool) fun t32=>
 if t32=true then
 bnd (idx s24.2 0) fun x36=>
 bnd (idx x36.fRest 0) fun x37=>
 bnd (app 40 s24.1 [x37]) fun x38=>
 bnd (cut x36.fRest 1 (x36.fRest.length:Int)) fun x40=>
 bnd (idx (s24.2.set (0:Int).toNat (⟨x40,x36.fWhich⟩:merge_run_damier_row_Row)) 0) fun x41=>
 if (x41.fRest.length:Int)=0 then
 bnd (ur (s24.2.set (0:Int).toNat (⟨x40,x36.fWhich⟩:merge_run_damier_row_Row)) a2 a3) fun x43=>
 some (Lp.next (x38,x43.2))
else
 bnd (ut 0 (s24.2.set (0:Int).toNat (⟨x40,x36.fWhich⟩:merge_run_damier_row_Row)) a2 a3) fun x45=>
 some (Lp.next (x38,x45))
else
 some (Lp.done s24.1)
noncomputable def yJ (a0:List (List row_Row)) (a1:Int) (a2:List order_By) (a3:List UInt8):Option (List row_Row):=
 bnd (loop (yJ.l1 a0 a2 a3) (0,[]):Option (List merge_run_damier_row_Row)) fun t2=>
 bnd (loop (yJ.l2 a1 a2 a3) ([],t2):Option (List row_Row)) fun t20=>
 some t20
theorem qC {a0:List (List row_Row)} {a1:Int} {a2:List order_By} {a3:List UInt8} {b0:Nat} {b1:Nat} {b2:Nat} {v3:Value} {res:(List row_Row)} (h0:yJ a0 a1 a2 a3=some res):zo X 215 [.fn (.func 170) [] [dP b0,dP b1],.sl 1 (List.map xQ a0),dN a1] [.var b0 [.sl 2 (List.map zg a2)] 104,.var b1 [dP b2] 28,.var b2 [.val v3] 264,.row v3 (lB a3) 1 5] (fun x=>.val (vn x 0)) (fun x=>[.var b0 [.sl 2 (List.map zg a2)] 104,.var b1 [dP b2] 28,.var b2 [.val v3] 264,.row v3 (lB a3) 1 5,.row (vn x 0) (List.map z8 res) 3 49]):=by
 unfold yJ at h0;refine zb (X:=X) Z Tryz.func215 Z Z Tryz.ntmps215 Z Z ?_;refine aS ?_;refine aA Z Z ?_;refine aN Z ?_;refine aS ?_;refine aA Z Z ?_;refine z6 (OpR.build Z Z Z Z Z) Z ?_;refine TL.op (xG Z Z (fun _=>Z)) Z (fun p1=>?_);refine aA Z Z ?_;refine aN Z ?_;refine T.seq ?_;refine aS ?_;refine aA Z Z ?_;refine z6 (zk (OpR.pure Z) (xn (w9 _ _))) Z ?_;refine aA Z Z ?_;refine aN Z ?_;obtain⟨t2,ht2,h0⟩:=bS h0;refine zA (fun S'=>∃ y3:Value,S'=⟨[(7,(dP (blk p1))),(6,.val (.slice none 0 0)),(2,(dN a1))],[.var b0 [.sl 2 (List.map zg a2)] 104,.var b1 [dP b2] 28,.var b2 [.val v3] 264,.row v3 (lB a3) 1 5,.var (blk p1) [.val y3,.fn (.func 170) [] [dP b0,dP b1]] 321,.row y3 (List.map za t2) 2 324],77⟩) (fun _ h=>h) ?_ ?_
 ·refine T.block ?_;obtain⟨n6,n11⟩:=zy ht2;refine T.loop (fun n S'=>∃ S'',Gst S' S''∧∃ y4:Value,∃ s5:Int × (List merge_run_damier_row_Row),S''=⟨[(17,(dN s5.1)),(16,(dN (a0.length:Int))),(15,.sl 1 (List.map xQ a0)),(7,(dP (blk p1))),(6,.val (.slice none 0 0)),(2,(dN a1))],[.var b0 [.sl 2 (List.map zg a2)] 104,.var b1 [dP b2] 28,.var b2 [.val v3] 264,.row v3 (lB a3) 1 5,.var (blk p1) [.val y4,.fn (.func 170) [] [dP b0,dP b1]] 321,.row y4 (List.map za s5.2) 2 324],77⟩∧wo (yJ.l1 a0 a2 a3) n s5=some t2) n6 ?_ ?_
  ·exact⟨_,Gst.trans (Gst.only [2,6,7,15,16,17] Z) (ye (ow:=[.var b0 [.sl 2 (List.map zg a2)] 104,.var b1 [dP b2] 28,.var b2 [.val v3] 264,.row v3 (lB a3) 1 5,.var (blk p1) [.val (.slice none 0 0),.fn (.func 170) [] [dP b0,dP b1]] 321]) 2 324 Z),(.slice none 0 0),(0,[]),Z,n11⟩
  rintro n6 _ ⟨_,g,y4,s5,rfl,i10⟩;refine T.ghost g ?_;obtain⟨m7,q8,rfl,q9,i10⟩:=zz i10;unfold yJ.l1 at q9;refine aS ?_;refine aA Z Z ?_;refine aN Z ?_;refine T.seq ?_;rcases z9 q9 with ⟨c13,q9⟩|⟨c13,q9⟩;rotate_left
  ·refine ze Z (eF c13) ?_;refine T.exit ?_;obtain rfl:=osi q9;obtain rfl:_=_:=i10;exact⟨_,Gst.only [2,6,7] Z,y4,Z⟩
  refine zf Z (eT c13) ?_;refine aK Z ?_;refine T.seq ?_;refine T.block ?_;refine aS ?_;refine aA Z Z ?_;obtain⟨x14,hx14,q9⟩:=bS q9;refine z6 (zp xQ hx14 Z Z Z Z Z) Z ?_;iterate 3 refine aA rfl rfl ?_
  refine aN Z ?_;refine aS ?_;refine aA Z Z ?_;refine z6 (zk (OpR.pure Z) (xn (w9 _ _))) Z ?_;refine aA Z Z ?_;refine aN Z ?_;obtain⟨t15,ht15,q9⟩:=bS q9;refine zA (fun S'=>∃ y16:Value,S'=⟨[(17,(dN s5.1)),(16,(dN (a0.length:Int))),(15,.sl 1 (List.map xQ a0)),(7,(dP (blk p1))),(6,.val (.slice none 0 0)),(2,(dN a1))],[.var b0 [.sl 2 (List.map zg a2)] 104,.var b1 [dP b2] 28,.var b2 [.val v3] 264,.row v3 (lB a3) 1 5,.var (blk p1) [.val y16,.fn (.func 170) [] [dP b0,dP b1]] 321,.row y16 (List.map za t15) 2 324],77⟩) (fun _ h=>h) ?_ ?_;rotate_left
  ·rintro _ ⟨y16,rfl⟩;show T X _ _ _;refine T.region ?_;iterate 2 refine aA rfl rfl ?_
   refine TL.nil ?_;obtain rfl:=osi q9;exact⟨m7,Nat.lt_succ_self _,_,Gst.only [2,6,7,15,16,17] Z,y16,(w64 (s5.1+1),t15),Z,i10⟩
  rcases z9 ht15 with ⟨c17,ht15⟩|⟨c17,ht15⟩;rotate_left
  ·refine ze Z (eF c17) ?_;refine T.skip ?_;obtain rfl:=osi ht15;exact⟨_,Gst.only [2,6,7,15,16,17] Z,y4,Z⟩
  refine zf Z (eT c17) ?_;refine T.region ?_;refine aA Z Z ?_;refine z6 (ux Z Z Z) Z ?_;iterate 2 refine aA rfl rfl ?_
  refine z6 (OpR.build Z Z Z Z Z) Z ?_;refine z6 (ux Z Z Z) Z ?_;obtain⟨x18,hx18,ht15⟩:=bS ht15;refine TL.op (OpR.call [4,5,0,1,2,3] fn241 (rK hx18) Z Z Z (fun _=>Z)) Z (fun w19=>?_);refine TL.nil ?_;obtain rfl:=osi ht15;exact⟨_,Gst.only [2,6,7,15,16,17] Z,(vn w19 0),Z⟩
 rintro _ ⟨y3,rfl⟩;show T X _ _ _;refine aS ?_;refine aA Z Z ?_;refine aN Z ?_;refine T.seq ?_;obtain⟨t20,ht20,h0⟩:=bS h0;refine zA (fun S'=>∃ y21:Value,S'=⟨[(10,.val y21),(6,.val (.slice none 0 0))],[.var b0 [.sl 2 (List.map zg a2)] 104,.var b1 [dP b2] 28,.var b2 [.val v3] 264,.row v3 (lB a3) 1 5,.row y21 (List.map z8 t20) 3 49],77⟩) (fun _ h=>h) ?_ ?_;rotate_left
 ·rintro _ ⟨y21,rfl⟩;show T X _ _ _;refine aS ?_;iterate 2 refine aA rfl rfl ?_
  refine aN Z ?_;refine T.ret ?_;obtain rfl:=osi h0;exact rO [0,1,2,3,4] [6] Z (.tuple #[y21]) (cT Z ResL.nil) Z Z Z Z
 refine T.block ?_;obtain⟨n25,n30⟩:=zy ht20;refine T.loop (fun n S'=>∃ S'',Gst S' S''∧∃ y22:Value,∃ y23:Value,∃ s24:(List row_Row) × (List merge_run_damier_row_Row),S''=⟨[(10,.val y22),(7,(dP (blk p1))),(6,.val (.slice none 0 0)),(2,(dN a1))],[.var b0 [.sl 2 (List.map zg a2)] 104,.var b1 [dP b2] 28,.var b2 [.val v3] 264,.row v3 (lB a3) 1 5,.var (blk p1) [.val y23,.fn (.func 170) [] [dP b0,dP b1]] 321,.row y22 (List.map z8 s24.1) 3 49,.row y23 (List.map za s24.2) 2 324],77⟩∧wo (yJ.l2 a1 a2 a3) n s24=some t20) n25 ?_ ?_
 ·exact⟨_,Gst.trans (Gst.only [2,6,7,10] Z) (Gst.trans (ye (ow:=[.var b0 [.sl 2 (List.map zg a2)] 104,.var b1 [dP b2] 28,.var b2 [.val v3] 264,.row v3 (lB a3) 1 5,.var (blk p1) [.val y3,.fn (.func 170) [] [dP b0,dP b1]] 321,.row y3 (List.map za t2) 2 324]) 3 49 Z) (Gst.pick [0,1,2,3,4,6,5] Z Z)),(.slice none 0 0),y3,([],t2),Z,n30⟩
 rintro n25 _ ⟨_,g,y22,y23,s24,rfl,i29⟩;refine T.ghost g ?_;obtain⟨m26,q27,rfl,q28,i29⟩:=zz i29;unfold yJ.l2 at q28;refine T.seq ?_;refine T.seq ?_;obtain⟨t32,ht32,q28⟩:=bS q28;refine zA (fun S'=>S'=⟨[(41,(dT t32)),(10,.val y22),(7,(dP (blk p1))),(6,.val (.slice none 0 0)),(2,(dN a1))],[.var b0 [.sl 2 (List.map zg a2)] 104,.var b1 [dP b2] 28,.var b2 [.val v3] 264,.row v3 (lB a3) 1 5,.var (blk p1) [.val y23,.fn (.func 170) [] [dP b0,dP b1]] 321,.row y22 (List.map z8 s24.1) 3 49,.row y23 (List.map za s24.2) 2 324],77⟩) (fun _ h=>h) ?_ ?_
 ·refine T.region ?_;refine aA Z Z ?_;obtain⟨x33,hx33,ht32⟩:=bS ht32;refine z6 (OpR.call [4,6,0,1,2,3] fn242 (wD hx33) Z Z Z (fun _=>Z)) Z ?_;iterate 2 refine aA rfl rfl ?_
  rcases z9 ht32 with ⟨c34,ht32⟩|⟨c34,ht32⟩;rotate_left
  ·refine TL.off Z Z Z Z (eF c34) Z Z ?_;refine TL.off Z Z Z Z (eF c34) Z Z ?_;refine TL.off Z Z Z Z (eF c34) Z Z ?_;refine TL.off Z Z Z Z (eF c34) Z Z ?_;refine z6 (zx Z (eF c34) Z) Z ?_;refine TL.nil ?_;obtain rfl:=osi ht32;exact⟨_,Gst.only [2,6,7,10,41] Z,Z⟩
  refine TL.on Z Z Z Z (eT c34) ?_;refine aA Z Z ?_;refine TL.on Z Z Z Z (eT c34) ?_;refine z6 (yH z8 5 Z Z Z Z) Z ?_;refine TL.on Z Z Z Z (eT c34) ?_;refine aA Z Z ?_;refine TL.on Z Z Z Z (eT c34) ?_;refine aA Z Z ?_;refine z6 (zt Z (eT c34) Z) Z ?_;refine TL.nil ?_;obtain rfl:=osi ht32;exact⟨_,Gst.only [2,6,7,10,41] Z,Z⟩
 rintro _ rfl;show T X _ _ _;rcases z9 q28 with ⟨c35,q28⟩|⟨c35,q28⟩;rotate_left
 ·refine ze Z (eN c35) ?_;refine T.exit ?_;obtain rfl:=osi q28;obtain rfl:_=_:=i29;exact⟨_,gP [6,10] [0,1,2,3,5] Z Z Z,y22,Z⟩
 refine zf Z (c35) ?_;refine aK Z ?_;refine T.block ?_;refine aS ?_;iterate 3 refine aA rfl rfl ?_
 refine z6 (z7 4 Z Z Z Z) Z ?_;obtain⟨x36,hx36,q28⟩:=bS q28;refine z6 (zO za 6 hx36 Z Z Z Z Z Z Z) Z ?_;refine aA Z Z ?_;refine aN Z ?_;refine aS ?_;iterate 4 refine aA rfl rfl ?_
 refine z6 (zH (j:=0) za 6 hx36 Z Z Z Z) Z ?_;obtain⟨x37,hx37,q28⟩:=bS q28;refine z6 (zp z8 hx37 Z Z Z Z Z) Z ?_;refine aA Z Z ?_;refine z6 (yN Z Z Z Z Z Z Z) Z ?_;obtain⟨x38,hx38,q28⟩:=bS q28;refine TL.op (zM (m:=[x37]) z8 5 hx38 Z Z Z Z Z Z Z Z Z (fun _=>Z)) Z (fun v39=>?_);refine aA Z Z ?_;refine aN Z ?_;refine T.seq ?_;refine aS ?_;iterate 4 refine aA rfl rfl ?_
 refine z6 (zH (j:=0) za 6 hx36 Z Z Z Z) Z ?_;obtain⟨x40,hx40,q28⟩:=bS q28;refine z6 (wR (sz:=3) z8 hx40 Z Z Z Z (BdM.some Z) BdM.none Z) Z ?_;iterate 2 refine aA rfl rfl ?_
 refine zv (yD (j:=0) za (⟨x40,x36.fWhich⟩:merge_run_damier_row_Row) 6 hx36 Z Z Z Z Z Z Z Z Z) ?_;refine aN Z ?_;refine aS ?_;iterate 3 refine aA rfl rfl ?_
 obtain⟨x41,hx41,q28⟩:=bS q28;refine z6 (zH (j:=0) za 6 hx41 Z Z Z Z) Z ?_;refine z6 (zk (OpR.pure Z) (xn (w9 _ _))) Z ?_;refine aA Z Z ?_;refine aN Z ?_;rcases z9 q28 with ⟨c42,q28⟩|⟨c42,q28⟩;rotate_left
 ·refine ze Z (beq_eq_false_iff_ne.2 c42) ?_;refine aK Z ?_;refine T.region ?_;refine aA Z Z ?_;refine z6 (ux Z Z Z) Z ?_;obtain⟨x45,hx45,q28⟩:=bS q28;refine z6 (OpR.call [4,6,0,1,2,3] fn244 (rY hx45) Z Z Z (fun _=>Z)) Z ?_;refine TL.nil ?_;obtain rfl:=osi q28;exact⟨m26,Nat.lt_succ_self _,_,Gst.only [2,6,7,10] Z,v39,y23,(x38,x45),Z,i29⟩
 refine zf Z (beq_iff_eq.2 c42) ?_;refine aS ?_;refine aA Z Z ?_;refine z6 (ux Z Z Z) Z ?_;obtain⟨x43,hx43,q28⟩:=bS q28;refine TL.op (OpR.call [4,6,0,1,2,3] fn243 (rX hx43) Z Z Z (fun _=>Z)) Z (fun w44=>?_);refine aN Z ?_;refine T.exit ?_;obtain rfl:=osi q28;exact⟨m26,Nat.lt_succ_self _,_,Gst.only [2,6,7,10] Z,v39,(vn w44 0),(x38,x43.2),Z,i29⟩
noncomputable def uF (a0:List (List row_Row)) (a1:List order_By) (a2:List UInt8):Option (List row_Row):=
 bnd (xL a0) fun x1=>
 bnd (yJ a0 x1 a1 a2) fun x2=>
 some x2
theorem qE {a0:List (List row_Row)} {a1:List order_By} {a2:List UInt8} {b0:Nat} {b1:Nat} {b2:Nat} {v3:Value} {res:(List row_Row)} (h0:uF a0 a1 a2=some res):zo X 173 [.fn (.func 170) [] [dP b0,dP b1],.sl 1 (List.map xQ a0)] [.var b0 [.sl 2 (List.map zg a1)] 104,.var b1 [dP b2] 28,.var b2 [.val v3] 264,.row v3 (lB a2) 1 5] (fun x=>.val (vn x 0)) (fun x=>[.var b0 [.sl 2 (List.map zg a1)] 104,.var b1 [dP b2] 28,.var b2 [.val v3] 264,.row v3 (lB a2) 1 5,.row (vn x 0) (List.map z8 res) 3 49]):=by
 unfold uF at h0;refine zb (X:=X) Z Tryz.func173 Z Z Tryz.ntmps173 Z Z ?_;refine aS ?_;refine aA Z Z ?_;refine aN Z ?_;refine aS ?_;iterate 3 refine aA rfl rfl ?_
 obtain⟨x1,hx1,h0⟩:=bS h0;refine z6 (zh fn216 (qD hx1) Z) Z ?_;obtain⟨x2,hx2,h0⟩:=bS h0;refine TL.op (OpR.call [0,1,2,3] fn215 (qC hx2) Z Z Z (fun _=>Z)) Z (fun w3=>?_);refine aA Z Z ?_;refine aN Z ?_;refine T.ret ?_;obtain rfl:=osi h0;exact rO [0,1,2,3,4] [4] Z (.tuple #[(vn w3 0)]) (cT Z ResL.nil) Z Z Z Z
noncomputable def tc (a0:List row_Row) (a1:List order_By) (a2:List UInt8):Option (List row_Row):=
 bnd (yR a0 a1 a2) fun x1=>
 bnd (uF x1 a1 a2) fun x2=>
 some x2
theorem qS {a0:List row_Row} {a1:List order_By} {a2:List UInt8} {b0:Nat} {b1:Nat} {b2:Nat} {v3:Value} {res:(List row_Row)} (h0:tc a0 a1 a2=some res):zo X 106 [.sl 3 (List.map z8 a0),.fn (.func 170) [] [dP b0,dP b1]] [.var b0 [.sl 2 (List.map zg a1)] 104,.var b1 [dP b2] 28,.var b2 [.val v3] 264,.row v3 (lB a2) 1 5] (fun x=>.val (vn x 0)) (fun x=>[.var b0 [.sl 2 (List.map zg a1)] 104,.var b1 [dP b2] 28,.var b2 [.val v3] 264,.row v3 (lB a2) 1 5,.row (vn x 0) (List.map z8 res) 3 49]):=by
 unfold tc at h0;refine zb (X:=X) Z Tryz.func106 Z Z Tryz.ntmps106 Z Z ?_;refine aS ?_;refine aA Z Z ?_;refine aN Z ?_;refine aS ?_;iterate 3 refine aA rfl rfl ?_
 obtain⟨x1,hx1,h0⟩:=bS h0;refine z6 (OpR.call [0,1,2,3] fn127 (tS hx1) Z Z Z (fun _=>Z)) Z ?_;obtain⟨x2,hx2,h0⟩:=bS h0;refine TL.op (OpR.call [0,1,2,3] fn173 (qE hx2) Z Z Z (fun _=>Z)) Z (fun w3=>?_);refine aA Z Z ?_;refine aN Z ?_;refine T.ret ?_;obtain rfl:=osi h0;exact rO [0,1,2,3,4] [4] Z (.tuple #[(vn w3 0)]) (cT Z ResL.nil) Z Z Z Z
noncomputable def tU (a0:row_Row) (a1:row_Row) (a2:List order_By) (a3:List UInt8):Option Bool:=
 bnd (yj a0 a1 a2 a3) fun x1=>
 some (x1==0)
theorem qw {a0:row_Row} {a1:row_Row} {a2:List order_By} {a3:List UInt8} {b0:Nat} {b1:Nat} {b2:Nat} {b3:Nat} {v4:Value} {res:Bool} (h0:tU a0 a1 a2 a3=some res):zo X 108 [.agg [.sl 5 (List.map zj a0.fCells),dN a0.fEnd,dT a0.fHidden],.agg [.sl 5 (List.map zj a1.fCells),dN a1.fEnd,dT a1.fHidden],dP b0] [.var b0 [.fn (.func 170) [] [dP b1,dP b2]] 170,.var b1 [.sl 2 (List.map zg a2)] 104,.var b2 [dP b3] 28,.var b3 [.val v4] 264,.row v4 (lB a3) 1 5] (fun x=>(dT res)) (fun x=>[.var b0 [.fn (.func 170) [] [dP b1,dP b2]] 170,.var b1 [.sl 2 (List.map zg a2)] 104,.var b2 [dP b3] 28,.var b3 [.val v4] 264,.row v4 (lB a3) 1 5]):=by
 unfold tU at h0;refine zb (X:=X) Z Tryz.func108 Z Z Tryz.ntmps108 Z Z ?_;refine aS ?_;refine z6 (zD Z Z) Z ?_;refine z6 (zD Z Z) Z ?_;refine aA Z Z ?_;refine aN Z ?_;refine aS ?_;refine z6 (z7 0 Z Z Z Z) Z ?_;iterate 2 refine aA rfl rfl ?_
 obtain⟨x1,hx1,h0⟩:=bS h0;refine z6 (vX [1,2,3,4] Z fn170 (vU hx1) Z Z Z (fun _=>Z)) Z ?_;iterate 2 refine aA rfl rfl ?_
 refine aN Z ?_;refine T.ret ?_;obtain rfl:=osi h0;exact rO [0,1,2,3,4] [5] Z undef (cT Z ResL.nil) Z Z Z Z
noncomputable def zG.l1 (a0:List row_Row) (a1:List order_By) (a2:List UInt8) (s4:Int) (s20:Int × Int × (List row_Row)):Option (Lp (Int × Int × (List row_Row)) (Int × (List row_Row))):=
 bnd (cut s20.2.2 s4 (a0.length:Int)) fun x28=>
 if s20.2.1<(x28.length:Int) then
 bnd (idx x28 s20.2.1) fun x31=>
 bnd (idx x28 (w64 (s20.2.1-1))) fun x32=>
 bnd (tU x31 x32 a1 a2) fun x33=>
 bnd (if x33=true then
 some (s20.1,s20.2.2)
else
 bnd (idx s20.2.2 s20.1) fun x36=>
 some (w64 (s20.1+1),(s20.2.2.set s20.1.toNat x31)):Option (Int × (List row_Row))) fun t34=>
 some (Lp.next (t34.1,w64 (s20.2.1+1),t34.2))
else
 some (Lp.done (s20.1,s20.2.2))
noncomputable def zG.l2 (a0:List row_Row) (a1:List order_By) (a2:List UInt8) (s4:Int):Option (Lp Int (Ex Unit (Unit ⊕ (Int × Int × (List row_Row))))):=
 if s4<(a0.length:Int) then
 bnd (idx a0 s4) fun x14=>
 bnd (idx a0 (w64 (s4-1))) fun x15=>
 bnd (tU x14 x15 a1 a2) fun x16=>
 if x16=true then
 bnd (cut a0 s4 (a0.length:Int)) fun x18=>
 bnd (loop (zG.l1 a0 a1 a2 s4) (s4,1,a0):Option (Int × (List row_Row))) fun t19=>
 bnd (cut t19.2 t19.1 (t19.2.length:Int)) fun x37=>
 bnd (cut (fillZ t19.2 t19.1 (t19.2.length:Int) ((⟨[],0,false⟩:row_Row):row_Row)) 0 t19.1) fun x38=>
 some (Lp.done (Ex.ret (Sum.inr (0,t19.1,(fillZ t19.2 t19.1 (t19.2.length:Int) ((⟨[],0,false⟩:row_Row):row_Row))))))
else
 some (Lp.next (w64 (s4+1)))
else
 some (Lp.done (Ex.brk ()))
noncomputable def zG (a0:List row_Row) (a1:List order_By) (a2:List UInt8):Option (Unit ⊕ (Int × Int × (List row_Row))):=
 if (a0.length:Int)<2 then
 some (Sum.inl ())
else
 bnd (loop (zG.l2 a0 a1 a2) 1:Option (Ex Unit (Unit ⊕ (Int × Int × (List row_Row))))) fun t2=>match t2 with
| .brk u3=>
 some (Sum.inl ())
| .ret u3=>some u3
theorem wN {a0:List row_Row} {a1:List order_By} {a2:List UInt8} {v0:Value} {b1:Nat} {b2:Nat} {b3:Nat} {b4:Nat} {v5:Value} {res:Unit ⊕ (Int × Int × (List row_Row))} (h0:zG a0 a1 a2=some res):zo X 107 [.val v0,.fn (.func 108) [] [dP b1]] [.row v0 (List.map z8 a0) 3 49,.var b1 [.fn (.func 170) [] [dP b2,dP b3]] 170,.var b2 [.sl 2 (List.map zg a1)] 104,.var b3 [dP b4] 28,.var b4 [.val v5] 264,.row v5 (lB a2) 1 5] (fun x=>(match res with | .inl res=>.val v0 | .inr res=>.val (vw v0 (res.1:Int).toNat (res.2.1:Int).toNat 3))) (fun x=>(match res with | .inl res=>[.row v0 (List.map z8 a0) 3 49,.var b1 [.fn (.func 170) [] [dP b2,dP b3]] 170,.var b2 [.sl 2 (List.map zg a1)] 104,.var b3 [dP b4] 28,.var b4 [.val v5] 264,.row v5 (lB a2) 1 5] | .inr res=>[.row v0 (List.map z8 res.2.2) 3 49,.var b1 [.fn (.func 170) [] [dP b2,dP b3]] 170,.var b2 [.sl 2 (List.map zg a1)] 104,.var b3 [dP b4] 28,.var b4 [.val v5] 264,.row v5 (lB a2) 1 5])):=by
 unfold zG at h0;refine zb (X:=X) Z Tryz.func107 Z Z Tryz.ntmps107 Z Z ?_;refine aS ?_;refine aA Z Z ?_;refine aN Z ?_;refine T.seq ?_;refine aS ?_;refine aA Z Z ?_;refine z6 (yH z8 0 Z Z Z Z) Z ?_;refine aA Z Z ?_;refine aN Z ?_;rcases z9 h0 with ⟨c1,h0⟩|⟨c1,h0⟩
 ·refine zf Z (eT c1) ?_;refine aS ?_;iterate 2 refine aA rfl rfl ?_
  refine aN Z ?_;refine T.ret ?_;obtain rfl:=osi h0;exact rO [0,1,2,3,4,5] [4] Z undef (cT Z ResL.nil) Z Z Z Z
 refine ze Z (eF c1) ?_;refine aK Z ?_;refine T.seq ?_;refine aS ?_;refine aA Z Z ?_;refine aN Z ?_;obtain⟨t2,ht2,h0⟩:=bS h0;refine zA (fun S'=>∃ u3,t2=Ex.brk u3∧S'=⟨[(4,.val (.slice none 0 0)),(0,.val v0)],[.row v0 (List.map z8 a0) 3 49,.var b1 [.fn (.func 170) [] [dP b2,dP b3]] 170,.var b2 [.sl 2 (List.map zg a1)] 104,.var b3 [dP b4] 28,.var b4 [.val v5] 264,.row v5 (lB a2) 1 5],66⟩) (fun _ h=>h) ?_ ?_;rotate_left
 ·rintro _ ⟨u3,rfl,rfl⟩;show T X _ _ _;refine aS ?_;iterate 2 refine aA rfl rfl ?_
  refine aN Z ?_;refine T.ret ?_;obtain rfl:=osi h0;exact rO [0,1,2,3,4,5] [4] Z undef (cT Z ResL.nil) Z Z Z Z
 refine T.block ?_;obtain⟨n5,n10⟩:=zy ht2;refine T.loop (fun n S'=>∃ S'',Gst S' S''∧∃ s4:Int,S''=⟨[(5,(dN s4)),(4,.val (.slice none 0 0)),(1,.fn (.func 108) [] [dP b1]),(0,.val v0)],[.row v0 (List.map z8 a0) 3 49,.var b1 [.fn (.func 170) [] [dP b2,dP b3]] 170,.var b2 [.sl 2 (List.map zg a1)] 104,.var b3 [dP b4] 28,.var b4 [.val v5] 264,.row v5 (lB a2) 1 5],66⟩∧wo (zG.l2 a0 a1 a2) n s4=some t2) n5 ?_ ?_
 ·exact⟨_,Gst.only [0,1,4,5] Z,1,Z,n10⟩
 rintro n5 _ ⟨_,g,s4,rfl,i9⟩;refine T.ghost g ?_;obtain⟨m6,q7,rfl,q8,i9⟩:=zz i9;unfold zG.l2 at q8;refine T.seq ?_;refine aS ?_;iterate 2 refine aA rfl rfl ?_
 refine z6 (yH z8 0 Z Z Z Z) Z ?_;refine aA Z Z ?_;refine aN Z ?_;rcases z9 q8 with ⟨c12,q8⟩|⟨c12,q8⟩;rotate_left
 ·refine ze Z (eF c12) ?_;refine T.exit ?_;obtain rfl:=osi q8;obtain rfl:_=_:=i9;exact⟨_,Gst.only [0,4] Z,_,Z,Z⟩
 refine zf Z (eT c12) ?_;refine aK Z ?_;refine T.seq ?_;refine T.block ?_;refine T.seq ?_;obtain⟨x14,hx14,q8⟩:=bS q8;obtain⟨x15,hx15,q8⟩:=bS q8;obtain⟨x16,hx16,q8⟩:=bS q8;refine yr zV [.fn (.func 108) [] [dP b1],.val v0,dN s4,.val (.pointer (some ⟨blk v0,s4.toNat*3,none⟩)),.agg [.sl 5 (List.map zj x14.fCells),dN x14.fEnd,dT x14.fHidden],.val v0,dN s4,dN (w64 (s4-1)),.val (.pointer (some ⟨blk v0,(w64 (s4-1)).toNat*3,none⟩)),.agg [.sl 5 (List.map zj x15.fCells),dN x15.fEnd,dT x15.fHidden],dT x16] [0,1,4,5,28] (by decide +kernel) Z ?_ Z ?_
 ·iterate 3 refine aB rfl rfl rfl ?_
  refine zw.yes (Want.plain Z) Z (zO z8 0 hx14 Z Z Z Z Z Z Z) ?_;refine zw.yes (Want.plain Z) Z (zH (j:=s4) z8 0 hx14 Z Z Z Z) ?_;iterate 3 refine aB rfl rfl rfl ?_
  refine zw.yes (Want.plain Z) Z (zO z8 0 hx15 Z Z Z Z Z Z Z) ?_;refine zw.yes (Want.plain Z) Z (zH (j:=w64 (s4-1)) z8 0 hx15 Z Z Z Z) ?_;refine zw.yes (Want.plain Z) Z (vX [1,2,3,4,5] Z fn108 (qw hx16) Z Z Z (fun _=>Z)) ?_;exact zw.nil
 show T X _ _ _;rcases z9 q8 with ⟨c17,q8⟩|⟨c17,q8⟩;rotate_left
 ·refine ze Z (eN c17) ?_;refine aK Z ?_;refine T.region ?_;iterate 3 refine aA rfl rfl ?_
  refine TL.nil ?_;obtain rfl:=osi q8;exact⟨m6,Nat.lt_succ_self _,_,Gst.only [0,1,4,5] Z,w64 (s4+1),Z,i9⟩
 refine zf Z (c17) ?_;refine aS ?_;iterate 2 refine aA rfl rfl ?_
 obtain⟨x18,hx18,q8⟩:=bS q8;refine z6 (wK z8 0 hx18 Z Z Z Z Z Z (BdM.some Z) BdM.none) Z ?_;refine aA Z Z ?_;refine aN Z ?_;refine T.seq ?_;refine aS ?_;refine aA Z Z ?_;refine aN Z ?_;obtain⟨t19,ht19,q8⟩:=bS q8;refine zA (fun S'=>S'=⟨[(5,(dN t19.1)),(4,.val (.slice none 0 0)),(1,.fn (.func 108) [] [dP b1]),(0,.val v0)],[.row v0 (List.map z8 t19.2) 3 49,.var b1 [.fn (.func 170) [] [dP b2,dP b3]] 170,.var b2 [.sl 2 (List.map zg a1)] 104,.var b3 [dP b4] 28,.var b4 [.val v5] 264,.row v5 (lB a2) 1 5],66⟩) (fun _ h=>h) ?_ ?_;rotate_left
 ·rintro _ rfl;show T X _ _ _;refine aS ?_;iterate 2 refine aA rfl rfl ?_
  obtain⟨x37,hx37,q8⟩:=bS q8;refine z6 (wK z8 0 hx37 Z Z Z Z Z Z (BdM.some Z) BdM.none) Z ?_;refine zv (OpR.clearM (lo:=t19.1) (hi:=(t19.2.length:Int)) z8 ((⟨[],0,false⟩:row_Row):row_Row) 0 hx37 Z Z Z Z Z Z Z Z Z (ReL.cons (Re.base .nil) (ReL.cons Re.refl (ReL.cons Re.refl ReL.nil))) Z Z) ?_;refine aN Z ?_;refine aS ?_;iterate 2 refine aA rfl rfl ?_
  obtain⟨x38,hx38,q8⟩:=bS q8;refine z6 (wK z8 0 hx38 Z Z Z Z Z Z BdM.none (BdM.some Z)) Z ?_;refine aA Z Z ?_;refine aN Z ?_;refine T.ret ?_;obtain rfl:=osi q8;obtain rfl:_=_:=i9;obtain rfl:=osi h0;exact rO [0,1,2,3,4,5] [4] Z undef (cT Z ResL.nil) Z Z Z Z
 refine T.block ?_;obtain⟨n21,n26⟩:=zy ht19;refine T.loop (fun n S'=>∃ S'',Gst S' S''∧∃ s20:Int × Int × (List row_Row),S''=⟨[(7,(dN s20.2.1)),(6,.val (vw v0 (s4:Int).toNat ((a0.length:Int):Int).toNat 3)),(5,(dN s20.1)),(4,.val (.slice none 0 0)),(1,.fn (.func 108) [] [dP b1]),(0,.val v0)],[.row v0 (List.map z8 s20.2.2) 3 49,.var b1 [.fn (.func 170) [] [dP b2,dP b3]] 170,.var b2 [.sl 2 (List.map zg a1)] 104,.var b3 [dP b4] 28,.var b4 [.val v5] 264,.row v5 (lB a2) 1 5],66⟩∧wo (zG.l1 a0 a1 a2 s4) n s20=some t19) n21 ?_ ?_
 ·exact⟨_,Gst.only [0,1,4,5,6,7] Z,(s4,1,a0),Z,n26⟩
 rintro n21 _ ⟨_,g,s20,rfl,i25⟩;refine T.ghost g ?_;obtain⟨m22,q23,rfl,q24,i25⟩:=zz i25;unfold zG.l1 at q24;refine T.seq ?_;refine aS ?_;iterate 2 refine aA rfl rfl ?_
 obtain⟨x28,hx28,q24⟩:=bS q24;refine z6 (OpR.lenF z8 (r8 z8 0 hx28 Z Z) Z Z) Z ?_;refine aA Z Z ?_;refine aN Z ?_;rcases z9 q24 with ⟨c29,q24⟩|⟨c29,q24⟩;rotate_left
 ·refine ze Z (eF c29) ?_;refine T.exit ?_;obtain rfl:=osi q24;obtain rfl:_=_:=i25;exact⟨_,Gst.only [0,1,4,5] Z,Z⟩
 refine zf Z (eT c29) ?_;refine aK Z ?_;refine T.seq ?_;refine T.block ?_;refine T.seq ?_;obtain⟨x31,hx31,q24⟩:=bS q24;obtain⟨x32,hx32,q24⟩:=bS q24;obtain⟨x33,hx33,q24⟩:=bS q24;refine yr zV [.fn (.func 108) [] [dP b1],.val (vw v0 (s4:Int).toNat ((a0.length:Int):Int).toNat 3),dN s20.2.1,.val (.pointer (some ⟨blk v0,(s4+s20.2.1).toNat*3,none⟩)),.agg [.sl 5 (List.map zj x31.fCells),dN x31.fEnd,dT x31.fHidden],.val (vw v0 (s4:Int).toNat ((a0.length:Int):Int).toNat 3),dN s20.2.1,dN (w64 (s20.2.1-1)),.val (.pointer (some ⟨blk v0,(s4+(w64 (s20.2.1-1))).toNat*3,none⟩)),.agg [.sl 5 (List.map zj x32.fCells),dN x32.fEnd,dT x32.fHidden],dT x33,dT (!x33)] [0,1,4,5,6,7,49] (by decide +kernel) Z ?_ Z ?_
 ·iterate 3 refine aB rfl rfl rfl ?_
  refine zw.yes (Want.plain Z) Z (sU (lo:=s4) (hi:=(a0.length:Int)) (j:=s20.2.1) z8 0 hx28 hx31 Z Z Z Z Z Z Z) ?_;refine zw.yes (Want.plain Z) Z (zH (j:=s4+s20.2.1) z8 0 (idx_cut hx28 hx31) Z Z Z Z) ?_;iterate 3 refine aB rfl rfl rfl ?_
  refine zw.yes (Want.plain Z) Z (sU (lo:=s4) (hi:=(a0.length:Int)) (j:=w64 (s20.2.1-1)) z8 0 hx28 hx32 Z Z Z Z Z Z Z) ?_;refine zw.yes (Want.plain Z) Z (zH (j:=s4+(w64 (s20.2.1-1))) z8 0 (idx_cut hx28 hx32) Z Z Z Z) ?_;refine zw.yes (Want.plain Z) Z (vX [1,2,3,4,5] Z fn108 (qw hx33) Z Z Z (fun _=>Z)) ?_;refine aB Z Z Z ?_;exact zw.nil
 show T X _ _ _;obtain⟨t34,ht34,q24⟩:=bS q24;refine zA (fun S'=>S'=⟨[(7,(dN s20.2.1)),(6,.val (vw v0 (s4:Int).toNat ((a0.length:Int):Int).toNat 3)),(5,(dN t34.1)),(4,.val (.slice none 0 0)),(1,.fn (.func 108) [] [dP b1]),(0,.val v0)],[.row v0 (List.map z8 t34.2) 3 49,.var b1 [.fn (.func 170) [] [dP b2,dP b3]] 170,.var b2 [.sl 2 (List.map zg a1)] 104,.var b3 [dP b4] 28,.var b4 [.val v5] 264,.row v5 (lB a2) 1 5],66⟩) (fun _ h=>h) ?_ ?_;rotate_left
 ·rintro _ rfl;show T X _ _ _;refine T.region ?_;iterate 3 refine aA rfl rfl ?_
  refine TL.nil ?_;obtain rfl:=osi q24;exact⟨m22,Nat.lt_succ_self _,_,Gst.only [0,1,4,5,6,7] Z,(t34.1,w64 (s20.2.1+1),t34.2),Z,i25⟩
 rcases z9 ht34 with ⟨c35,ht34⟩|⟨c35,ht34⟩
 ·refine ze Z (zQ (c35)) ?_;refine T.skip ?_;obtain rfl:=osi ht34;exact⟨_,Gst.only [0,1,4,5,6,7] Z,Z⟩
 refine zf Z (zR (eN c35)) ?_;refine aS ?_;iterate 4 refine aA rfl rfl ?_
 refine z6 (sU (lo:=s4) (hi:=(a0.length:Int)) (j:=s20.2.1) z8 0 hx28 hx31 Z Z Z Z Z Z Z) Z ?_;refine z6 (zH (j:=s4+s20.2.1) z8 0 (idx_cut hx28 hx31) Z Z Z Z) Z ?_;obtain⟨x36,hx36,ht34⟩:=bS ht34;refine z6 (zO z8 0 hx36 Z Z Z Z Z Z Z) Z ?_;refine zv (yD (j:=s20.1) z8 x31 0 hx36 Z Z Z Z Z Z Z Z Z) ?_;refine aN Z ?_;refine T.region ?_;iterate 3 refine aA rfl rfl ?_
 refine TL.nil ?_;obtain rfl:=osi ht34;exact⟨_,Gst.only [0,1,4,5,6,7] Z,Z⟩
theorem uq {a0:List row_Row} {a1:List order_By} {a2:List UInt8} {v0:Value} {b1:Nat} {b2:Nat} {b3:Nat} {b4:Nat} {v5:Value} {res:Unit} (h0:zG a0 a1 a2=some (Sum.inl res)):zo X 107 [.val v0,.fn (.func 108) [] [dP b1]] [.row v0 (List.map z8 a0) 3 49,.var b1 [.fn (.func 170) [] [dP b2,dP b3]] 170,.var b2 [.sl 2 (List.map zg a1)] 104,.var b3 [dP b4] 28,.var b4 [.val v5] 264,.row v5 (lB a2) 1 5] (fun x=>.val v0) (fun x=>[.row v0 (List.map z8 a0) 3 49,.var b1 [.fn (.func 170) [] [dP b2,dP b3]] 170,.var b2 [.sl 2 (List.map zg a1)] 104,.var b3 [dP b4] 28,.var b4 [.val v5] 264,.row v5 (lB a2) 1 5]):=wN h0
theorem uo {a0:List row_Row} {a1:List order_By} {a2:List UInt8} {v0:Value} {b1:Nat} {b2:Nat} {b3:Nat} {b4:Nat} {v5:Value} {res:Int × Int × (List row_Row)} (h0:zG a0 a1 a2=some (Sum.inr res)):zo X 107 [.val v0,.fn (.func 108) [] [dP b1]] [.row v0 (List.map z8 a0) 3 49,.var b1 [.fn (.func 170) [] [dP b2,dP b3]] 170,.var b2 [.sl 2 (List.map zg a1)] 104,.var b3 [dP b4] 28,.var b4 [.val v5] 264,.row v5 (lB a2) 1 5] (fun x=>.val (vw v0 (res.1:Int).toNat (res.2.1:Int).toNat 3)) (fun x=>[.row v0 (List.map z8 res.2.2) 3 49,.var b1 [.fn (.func 170) [] [dP b2,dP b3]] 170,.var b2 [.sl 2 (List.map zg a1)] 104,.var b3 [dP b4] 28,.var b4 [.val v5] 264,.row v5 (lB a2) 1 5]):=wN h0
noncomputable def ph (a0:grid_Grid) (a1:Int) (a2:List UInt8):Option Int:=
 bnd (xd a0) fun x1=>
 bnd (vp [(⟨a1,false⟩:order_By)] a2) fun x2=>
 bnd (tc x1.1 x2 a2) fun x5=>
 bnd (zG x5 x2 a2) fun x7=>
 match x7 with
| .inl x7=>
 some (x5.length:Int)
| .inr x7=>
 bnd (cut x7.2.2 x7.1 x7.2.1) fun x8=>
 some (x8.length:Int)
theorem order_Kinds_c {a0:grid_Grid} {a1:Int} {a2:List UInt8} {b0:Nat} {v1:Value} {res:Int} (h0:ph a0 a1 a2=some res):zo X 42 [.agg [(eOP a0.fRows.fRoot),dT a0.fTail,dN a0.fEnd],dP b0,dN a1] [.var b0 [.val v1] 264,.row v1 (lB a2) 1 5] (fun x=>(dN res)) (fun x=>[.var b0 [.val v1] 264,.row v1 (lB a2) 1 5]):=by
 unfold ph at h0;refine zb (X:=X) Z Tryz.func42 Z Z Tryz.ntmps42 Z Z ?_;refine aS ?_;refine z6 (zD Z Z) Z ?_;refine aA Z Z ?_;refine aN Z ?_;refine aS ?_;refine aA Z Z ?_;obtain⟨x1,hx1,h0⟩:=bS h0;refine z6 (zh fn104 (sA hx1) Z) Z ?_;iterate 5 refine aA rfl rfl ?_
 refine aN Z ?_;refine aS ?_;iterate 2 refine aA rfl rfl ?_
 refine z6 (OpR.build Z Z Z Z Z) Z ?_;refine z6 (yN Z Z Z Z Z Z Z) Z ?_;obtain⟨x2,hx2,h0⟩:=bS h0;refine TL.op (OpR.call [0,1] fn105 (tO hx2) Z Z Z (fun _=>Z)) Z (fun w3=>?_);refine TL.op (OpR.alloc Z Z (fun _=>Z)) Z (fun p4=>?_);refine zv (OpR.store 4 Z Z Z Z Z Z Z Z) ?_;refine aN Z ?_;refine aS ?_;refine aA Z Z ?_;refine z6 (z7 4 Z Z Z Z) Z ?_;obtain⟨x5,hx5,h0⟩:=bS h0;refine TL.op (OpR.call [2,3,0,1] fn106 (qS hx5) Z Z Z (fun _=>Z)) Z (fun w6=>?_);refine aA Z Z ?_;refine aN Z ?_;refine aS ?_;iterate 2 refine aA rfl rfl ?_
 obtain⟨x7,hx7,h0⟩:=bS h0;rcases x7 with x7|x7
 ·dsimp only at h0;refine z6 (OpR.call [5,4,2,3,0,1] fn107 (uq hx7) Z Z Z (fun _=>Z)) Z ?_;refine z6 (yH z8 5 Z Z Z Z) Z ?_;refine aA Z Z ?_;refine aN Z ?_;refine T.ret ?_;obtain rfl:=osi h0;exact rP [0,1] [6] [0,1] Z Z Z undef (cT Z ResL.nil) Z Z Z Z
 dsimp only at h0;refine z6 (OpR.call [5,4,2,3,0,1] fn107 (uo hx7) Z Z Z (fun _=>Z)) Z ?_;obtain⟨x8,hx8,h0⟩:=bS h0;refine z6 (OpR.lenF z8 (r8 z8 5 hx8 Z Z) Z Z) Z ?_;refine aA Z Z ?_;refine aN Z ?_;refine T.ret ?_;obtain rfl:=osi h0;exact rP [0,1] [6] [0,1] Z Z Z undef (cT Z ResL.nil) Z Z Z Z
noncomputable def su:Option Bool:=
 bnd (xB [49,48,10,57,10,120,10,48,48,55]) fun x2=>
 match x2 with
| .inl x2=>
 if x2.2.1=0 then
 bnd (uI x2.1 [(⟨0,false⟩:order_By)] x2.2.2) fun x6=>
 bnd (if x6.2=0 then
 bnd (sS x6.1 x2.2.2) fun x10=>
 if x10=[48,48,55,10,57,10,49,48,10,120] then
 bnd (ph x2.1 0 x2.2.2) fun x12=>
 some (x12==4)
else
 some false
else
 some false:Option Bool) fun t8=>
 some t8
else
 some false
| .inr x2=>
 some false
theorem pJ {res:Bool} (h0:su=some res):zo X 39 [] [] (fun x=>(dT res)) (fun x=>[]):=by
 unfold su at h0;refine zb (X:=X) Z Tryz.func39 Z Z Tryz.ntmps39 Z Z ?_;refine aS ?_;refine aA Z Z ?_;refine aN Z ?_;refine aS ?_;refine TL.op (sc Z Z Z Z Z Z Z Z (fun _=>Z)) Z (fun v1=>?_);refine z6 (OpR.markRow 0 Z Z Z Z Z Z Z Z) Z ?_;obtain⟨x2,hx2,h0⟩:=bS h0;rcases x2 with x2|x2;rotate_left
 ·dsimp only at h0;refine z6 (zh fn67 (pL hx2) Z) Z ?_;iterate 4 refine aA rfl rfl ?_
  refine TL.op (OpR.alloc Z Z (fun _=>Z)) Z (fun p13=>?_);refine zv (OpR.store 1 Z Z Z Z Z Z Z Z) ?_;iterate 2 refine aA rfl rfl ?_
  refine aN Z ?_;refine T.seq ?_;refine aS ?_;refine aA Z Z ?_;refine z6 (qL (A:=none) Z Z Z) Z ?_;refine aA Z Z ?_;refine TL.off Z Z Z Z Z Z Z ?_;refine TL.off Z Z Z Z Z Z Z ?_;refine z6 (zt Z Z Z) Z ?_;refine aN Z ?_;refine zf Z Z ?_;refine aS ?_;refine aA Z Z ?_;refine aN Z ?_;refine T.ret ?_;obtain rfl:=osi h0;exact rP [] [0] [] Z Z Z undef (cT Z ResL.nil) Z Z Z Z
 dsimp only at h0;refine TL.op (OpR.call [] fn67 (pM hx2) Z Z Z (fun _=>Z)) Z (fun w3=>?_);iterate 4 refine aA rfl rfl ?_
 refine TL.op (OpR.alloc Z Z (fun _=>Z)) Z (fun p4=>?_);refine zv (OpR.store 3 Z Z Z Z Z Z Z Z) ?_;iterate 2 refine aA rfl rfl ?_
 refine aN Z ?_;refine T.seq ?_;refine aS ?_;refine aA Z Z ?_;refine z6 (qL (A:=some ⟨(blk (vn w3 0)),0,none⟩) Z Z Z) Z ?_;refine aA Z Z ?_;refine TL.on Z Z Z Z Z ?_;refine aA Z Z ?_;refine TL.on Z Z Z Z Z ?_;refine aA Z Z ?_;refine z6 (zx Z Z Z) Z ?_;refine aN Z ?_;rcases z9 h0 with ⟨c5,h0⟩|⟨c5,h0⟩;rotate_left
 ·refine zf Z (zR (beq_eq_false_iff_ne.2 c5)) ?_;refine aS ?_;refine aA Z Z ?_;refine aN Z ?_;refine T.ret ?_;obtain rfl:=osi h0;exact rP [] [0] [] Z Z Z undef (cT Z ResL.nil) Z Z Z Z
 refine ze Z (zQ (beq_iff_eq.2 c5)) ?_;refine aK Z ?_;refine aS ?_;refine z6 (z7 3 Z Z Z Z) Z ?_;refine aA Z Z ?_;refine z6 (OpR.build Z Z Z Z Z) Z ?_;refine z6 (yN Z Z Z Z Z Z Z) Z ?_;obtain⟨x6,hx6,h0⟩:=bS h0;refine z6 (OpR.call [1,2] fn50 (qt hx6) Z Z Z (fun _=>Z)) Z ?_;iterate 3 refine aA rfl rfl ?_
 refine TL.op (OpR.alloc Z Z (fun _=>Z)) Z (fun p7=>?_);refine zv (OpR.store 4 Z Z Z Z Z Z Z Z) ?_;refine aA Z Z ?_;refine aN Z ?_;refine T.seq ?_;obtain⟨t8,ht8,h0⟩:=bS h0;refine zA (fun S'=>S'=⟨[(0,(dT t8))],[],42⟩) (fun _ h=>h) ?_ ?_;rotate_left
 ·rintro _ rfl;show T X _ _ _;refine T.ret ?_;obtain rfl:=osi h0;exact rO [] [0] Z undef (cT Z ResL.nil) Z Z Z Z
 refine T.region ?_;iterate 3 refine aA rfl rfl ?_
 rcases z9 ht8 with ⟨c9,ht8⟩|⟨c9,ht8⟩;rotate_left
 ·refine TL.off Z Z Z Z (beq_eq_false_iff_ne.2 c9) Z Z ?_;refine TL.off Z Z Z Z (beq_eq_false_iff_ne.2 c9) Z Z ?_;refine TL.off Z Z Z Z (beq_eq_false_iff_ne.2 c9) Z Z ?_;refine TL.off Z Z Z Z (beq_eq_false_iff_ne.2 c9) Z Z ?_;refine TL.off Z Z Z Z (beq_eq_false_iff_ne.2 c9) Z Z ?_;refine z6 (zx Z (beq_eq_false_iff_ne.2 c9) Z) Z ?_;refine aA Z Z ?_;refine TL.off Z Z Z Z Z Z Z ?_;refine TL.off Z Z Z Z Z Z Z ?_;refine TL.off Z Z Z Z Z Z Z ?_;refine TL.off Z Z Z Z Z Z Z ?_;refine z6 (zx Z Z Z) Z ?_;refine aA Z Z ?_;refine TL.nil ?_;obtain rfl:=osi ht8;exact⟨_,gP [0] [] Z Z Z,Z⟩
 refine TL.on Z Z Z Z (beq_iff_eq.2 c9) ?_;refine z6 (z7 4 Z Z Z Z) Z ?_;refine TL.on Z Z Z Z (beq_iff_eq.2 c9) ?_;refine aA Z Z ?_;refine TL.on Z Z Z Z (beq_iff_eq.2 c9) ?_;obtain⟨x10,hx10,ht8⟩:=bS ht8;refine z6 (OpR.call [1,2] fn69 (grid_Grid_Save_c hx10) Z Z Z (fun _=>Z)) Z ?_;refine TL.on Z Z Z Z (beq_iff_eq.2 c9) ?_;refine z6 (qm (bs:=x10) Z Z Z Z Z Z Z) Z ?_;refine TL.on Z Z Z Z (beq_iff_eq.2 c9) ?_;refine z6 (zk (OpR.pure Z) (boolE (strEq _ _))) Z ?_;refine z6 (zt Z (beq_iff_eq.2 c9) Z) Z ?_;refine aA Z Z ?_;rcases z9 ht8 with ⟨c11,ht8⟩|⟨c11,ht8⟩;rotate_left
 ·refine TL.off Z Z Z Z (beq_eq_false_iff_ne.2 c11) Z Z ?_;refine TL.off Z Z Z Z (beq_eq_false_iff_ne.2 c11) Z Z ?_;refine TL.off Z Z Z Z (beq_eq_false_iff_ne.2 c11) Z Z ?_;refine TL.off Z Z Z Z (beq_eq_false_iff_ne.2 c11) Z Z ?_;refine z6 (zx Z (beq_eq_false_iff_ne.2 c11) Z) Z ?_;refine aA Z Z ?_;refine TL.nil ?_;obtain rfl:=osi ht8;exact⟨_,gP [0] [] Z Z Z,Z⟩
 refine TL.on Z Z Z Z (beq_iff_eq.2 c11) ?_;refine z6 (z7 3 Z Z Z Z) Z ?_;refine TL.on Z Z Z Z (beq_iff_eq.2 c11) ?_;refine aA Z Z ?_;refine TL.on Z Z Z Z (beq_iff_eq.2 c11) ?_;obtain⟨x12,hx12,ht8⟩:=bS ht8;refine z6 (OpR.call [1,2] fn42 (order_Kinds_c hx12) Z Z Z (fun _=>Z)) Z ?_;refine TL.on Z Z Z Z (beq_iff_eq.2 c11) ?_;refine aA Z Z ?_;refine z6 (zt Z (beq_iff_eq.2 c11) Z) Z ?_;refine aA Z Z ?_;refine TL.nil ?_;obtain rfl:=osi ht8;exact⟨_,gP [0] [] Z Z Z,Z⟩
noncomputable def uE (a0:cell_Cell) (a1:List UInt8):Option ref07_Cell:=
 bnd (xb a0 a1) fun x3=>
 bnd (if a0.fKept=true then
 bnd (xz a0.fRaw a1) fun x6=>
 some x6
else
 some []:Option (List UInt8)) fun t4=>
 some (⟨x3,t4,a0.fKept⟩:ref07_Cell)
theorem law07_Plain_c {a0:cell_Cell} {a1:List UInt8} {b0:Nat} {v1:Value} {res:ref07_Cell} (h0:uE a0 a1=some res):zo X 144 [dP b0,.agg [.sl 2 (List.map zm a0.fText.fL),dN a0.fText.fN,dN a0.fRaw.fAt,dN a0.fRaw.fN,dT a0.fKept]] [.var b0 [.val v1] 264,.row v1 (lB a1) 1 5] (fun x=>.agg [.val (.string (bs res.fS)),.val (.string (bs res.fRaw)),dT res.fKept]) (fun x=>[.var b0 [.val v1] 264,.row v1 (lB a1) 1 5]):=by
 unfold uE at h0;refine zb (X:=X) Z Tryz.func144 Z Z Tryz.ntmps144 Z Z ?_;refine aS ?_;refine z6 (zD Z Z) Z ?_;refine TL.op (OpR.alloc Z Z (fun _=>Z)) Z (fun p1=>?_);refine aN Z ?_;refine T.seq ?_;obtain⟨x3,hx3,h0⟩:=bS h0;refine yA zV (fun env2=>[.agg [.sl 2 (List.map zm a0.fText.fL),dN a0.fText.fN,dN a0.fRaw.fAt,dN a0.fRaw.fN,dT a0.fKept],dP b0,.sl 1 (lB x3),.val (.string (bs x3)),.nod [dT a0.fKept],dT a0.fKept,.agg [.val (.string (bs x3)),.val (.string (bs [])),dT a0.fKept],dP (blk (env2 7)),.dead]) (fun D env2=>[.var b0 [.val v1] 264,.row v1 (lB a1) 1 5,.var (blk p1) [.val (.string (bs [])),.val (.string (bs [])),dT false] 151]++(bif D 7 then [(bif D 8 then .var (blk (env2 7)) [.val (.string (bs x3)),.val (.string (bs [])),dT a0.fKept] 151 else .var (blk (env2 7)) [.val (.string (bs [])),.val (.string (bs [])),dT false] 151)] else [])) [0,0,3,7,0,16,63,0,255] [0,3,4,5] _ (by decide +kernel) (by decide +kernel) (fun _=>Z) (fun _=>Z) ?_ (fun _=>Z) (fun _=>Z) ?_;rotate_left
 ·intro env2;show T X _ _ _;refine T.seq ?_;refine aS ?_;iterate 2 refine aA rfl rfl ?_
  refine aN Z ?_;obtain⟨t4,ht4,h0⟩:=bS h0;refine zA (fun S'=>S'=⟨[(5,(dP (blk (env2 7)))),(4,(dP (blk p1)))],[.var b0 [.val v1] 264,.row v1 (lB a1) 1 5,.var (blk p1) [.val (.string (bs [])),.val (.string (bs [])),dT false] 151,.var (blk (env2 7)) [.val (.string (bs x3)),.val (.string (bs t4)),dT a0.fKept] 151],22⟩) (fun _ h=>h) ?_ ?_;rotate_left
  ·rintro _ rfl;show T X _ _ _;refine aS ?_;refine z6 (z7 3 Z Z Z Z) Z ?_;refine zv (OpR.store 2 Z Z Z Z Z Z Z Z) ?_;refine aN Z ?_;refine T.ret ?_;obtain rfl:=osi h0;exact rP [0,1] [4] [0,1,2] Z Z Z undef (cV 2 Z Z Z Z ResL.nil) Z Z Z Z
  rcases z9 ht4 with ⟨c5,ht4⟩|⟨c5,ht4⟩;rotate_left
  ·refine ze Z (eN c5) ?_;refine T.skip ?_;obtain rfl:=osi ht4;exact⟨_,Gst.only [4,5] Z,Z⟩
  refine zf Z (c5) ?_;refine T.region ?_;iterate 3 refine aA rfl rfl ?_
  obtain⟨x6,hx6,ht4⟩:=bS ht4;refine z6 (OpR.call [0,1] fn201 (v8 hx6) Z Z Z (fun _=>Z)) Z ?_;refine z6 (qm (bs:=x6) Z Z Z Z Z Z Z) Z ?_;refine aA Z Z ?_;refine zv (OpR.store 3 Z Z Z Z Z Z Z Z) ?_;refine TL.nil ?_;obtain rfl:=osi ht4;exact⟨_,Gst.only [4,5] Z,Z⟩
 iterate 2 refine aC ?_
 refine zi true ?_ (fun _ _ _ _ _ _ _=>Z) ?_
 ·intro D env2 hA;have e8:D 8=false:=hA.no 8 _ rfl rfl;rcases Bool.eq_false_or_eq_true (D 7) with e7|e7
  ·exact zK [(8,false),(7,true)] ⟨e8,e7,trivial⟩ (Want.plain Z) (OpR.call [0,1] fn113 (wV hx3) Z Z Z (fun _=>Z)) (fun x=>Z) (fun x=>Z)
  exact zK [(8,false),(7,false)] ⟨e8,e7,trivial⟩ (Want.plain Z) (OpR.call [0,1] fn113 (wV hx3) Z Z Z (fun _=>Z)) (fun x=>Z) (fun x=>Z)
 refine oT (.val (.string (bs x3))) (fun _ _=>qm (bs:=x3) Z Z Z Z Z Z Z) ?_;iterate 2 refine aC ?_
 refine oT (.agg [.val (.string (bs x3)),.val (.string (bs [])),dT a0.fKept]) (fun _ _=>OpR.build Z Z Z Z Z) ?_;refine zi true ?_ (fun D hA env2 x j hj hD=>match j,hj,hD with|0,_,_=>Z|1,_,_=>Z|2,_,_=>Z|3,_,_=>Z|4,_,_=>Z|5,_,_=>Z|6,_,_=>Z|7,hj,_=>absurd Z hj|8,_,_=>Z|_+9,_,_=>Z) ?_
 ·intro D env2 hA;have e8:D 8=false:=hA.no 8 _ rfl rfl;exact zK [(8,false),(7,false)] ⟨e8,hA.me,trivial⟩ (Want.plain Z) (OpR.alloc Z Z (fun _=>Z)) (fun x=>Z) (fun x=>Z)
 refine zi true ?_ (fun _ _ _ _ _ _ _=>Z) ?_
 ·intro D env2 hA;have e7:D 7=true:=hA.yes 7 _ rfl rfl;exact zK [(7,true),(8,false)] ⟨e7,hA.me,trivial⟩ (Want.plain Z) (OpR.store 3 Z Z Z Z Z Z Z Z) (fun x=>Z) (fun x=>Z)
 exact trivial
noncomputable def wl.l1 (a0:row_Row) (a1:List UInt8) (s6:Int × (List ref07_Cell)):Option (Lp (Int × (List ref07_Cell)) (List ref07_Cell)):=
 if s6.1<(a0.fCells.length:Int) then
 bnd (idx a0.fCells s6.1) fun x15=>
 bnd (uE x15 a1) fun x18=>
 bnd (app 40 s6.2 [x18]) fun x19=>
 some (Lp.next (w64 (s6.1+1),x19))
else
 some (Lp.done s6.2)
noncomputable def wl (a0:row_Row) (a1:List UInt8):Option ref08_Row:=
 bnd (loop (wl.l1 a0 a1) (0,[]):Option (List ref07_Cell)) fun t3=>
 some (⟨t3,a0.fEnd,a0.fHidden⟩:ref08_Row)
theorem law08_Plain_c {a0:row_Row} {a1:List UInt8} {b0:Nat} {v1:Value} {res:ref08_Row} (h0:wl a0 a1=some res):zo X 75 [dP b0,.agg [.sl 5 (List.map zj a0.fCells),dN a0.fEnd,dT a0.fHidden]] [.var b0 [.val v1] 264,.row v1 (lB a1) 1 5] (fun x=>.agg [.sl 3 (List.map zB res.fCells),dN res.fEnd,dT res.fHidden]) (fun x=>[.var b0 [.val v1] 264,.row v1 (lB a1) 1 5]):=by
 unfold wl at h0;refine zb (X:=X) Z Tryz.func75 Z Z Tryz.ntmps75 Z Z ?_;refine aS ?_;refine z6 (zD Z Z) Z ?_;refine TL.op (OpR.alloc Z Z (fun _=>Z)) Z (fun p1=>?_);refine aN Z ?_;refine aS ?_;iterate 4 refine aA rfl rfl ?_
 refine z6 (OpR.build Z Z Z Z Z) Z ?_;refine TL.op (OpR.alloc Z Z (fun _=>Z)) Z (fun p2=>?_);refine zv (OpR.store 3 Z Z Z Z Z Z Z Z) ?_;refine aN Z ?_;refine T.seq ?_;refine aS ?_;iterate 2 refine aA rfl rfl ?_
 refine z6 (zk (OpR.pure Z) (xn (w9 _ _))) Z ?_;refine aA Z Z ?_;refine aN Z ?_;obtain⟨t3,ht3,h0⟩:=bS h0;refine zA (fun S'=>∃ y4:Value,S'=⟨[(5,(dP (blk p2))),(4,(dP (blk p1)))],[.var b0 [.val v1] 264,.row v1 (lB a1) 1 5,.var (blk p1) [.val (.slice none 0 0),dN 0,dT false] 60,.var (blk p2) [.val y4,dN a0.fEnd,dT a0.fHidden] 60,.row y4 (List.map zB t3) 3 151],30⟩) (fun _ h=>h) ?_ ?_;rotate_left
 ·rintro _ ⟨y4,rfl⟩;show T X _ _ _;refine aS ?_;refine z6 (z7 3 Z Z Z Z) Z ?_;refine zv (OpR.store 2 Z Z Z Z Z Z Z Z) ?_;refine aN Z ?_;refine T.ret ?_;obtain rfl:=osi h0;exact zE (ks:=[0,1]) (Gst.trans (Gst.only [4] Z) (Gst.trans (zC 4 Z Z (ReS.cons Re.refl ReS.nil) (ReO.same (ReO.same (ReO.var (ReL.cons (Re.base .all) (ReL.cons Re.refl (ReL.cons Re.refl ReL.nil))) (ReO.var (ReL.cons (Re.base .all) (ReL.cons Re.refl (ReL.cons Re.refl ReL.nil))) (ReO.same ReO.nil)))))) (Gst.pick [0,1,2] Z Z))) undef (cV 2 Z Z Z Z ResL.nil) Z Z Z Z
 refine T.block ?_;obtain⟨n7,n12⟩:=zy ht3;refine T.loop (fun n S'=>∃ S'',Gst S' S''∧∃ y5:Value,∃ s6:Int × (List ref07_Cell),S''=⟨[(16,(dN s6.1)),(15,(dN (a0.fCells.length:Int))),(14,.sl 5 (List.map zj a0.fCells)),(5,(dP (blk p2))),(4,(dP (blk p1))),(0,(dP b0))],[.var b0 [.val v1] 264,.row v1 (lB a1) 1 5,.var (blk p1) [.val (.slice none 0 0),dN 0,dT false] 60,.var (blk p2) [.val y5,dN a0.fEnd,dT a0.fHidden] 60,.row y5 (List.map zB s6.2) 3 151],30⟩∧wo (wl.l1 a0 a1) n s6=some t3) n7 ?_ ?_
 ·exact⟨_,Gst.trans (Gst.only [0,4,5,14,15,16] Z) (ye (ow:=[.var b0 [.val v1] 264,.row v1 (lB a1) 1 5,.var (blk p1) [.val (.slice none 0 0),dN 0,dT false] 60,.var (blk p2) [.val (.slice none 0 0),dN a0.fEnd,dT a0.fHidden] 60]) 3 151 Z),(.slice none 0 0),(0,[]),Z,n12⟩
 rintro n7 _ ⟨_,g,y5,s6,rfl,i11⟩;refine T.ghost g ?_;obtain⟨m8,q9,rfl,q10,i11⟩:=zz i11;unfold wl.l1 at q10;refine aS ?_;refine aA Z Z ?_;refine aN Z ?_;refine T.seq ?_;rcases z9 q10 with ⟨c14,q10⟩|⟨c14,q10⟩;rotate_left
 ·refine ze Z (eF c14) ?_;refine T.exit ?_;obtain rfl:=osi q10;obtain rfl:_=_:=i11;exact⟨_,Gst.only [4,5] Z,y5,Z⟩
 refine zf Z (eT c14) ?_;refine aK Z ?_;refine T.seq ?_;refine T.block ?_;refine aS ?_;obtain⟨x15,hx15,q10⟩:=bS q10;refine z6 (zp zj hx15 Z Z Z Z Z) Z ?_;refine aA Z Z ?_;refine TL.op (OpR.alloc Z Z (fun _=>Z)) Z (fun p16=>?_);refine zv (OpR.store 5 Z Z Z Z Z Z Z Z) ?_;refine aN Z ?_;obtain⟨x18,hx18,q10⟩:=bS q10;obtain⟨x19,hx19,q10⟩:=bS q10;refine yA zV (fun env17=>[dP (blk p2),.val y5,dP b0,.agg [.sl 2 (List.map zm x15.fText.fL),dN x15.fText.fN,dN x15.fRaw.fAt,dN x15.fRaw.fN,dT x15.fKept],.agg [.val (.string (bs x18.fS)),.val (.string (bs x18.fRaw)),dT x18.fKept],.sl 3 (List.map zB [x18]),.val (env17 6),dP (blk p2),.dead]) (fun D env17=>[.var b0 [.val v1] 264,.row v1 (lB a1) 1 5,.var (blk p1) [.val (.slice none 0 0),dN 0,dT false] 60,(bif D 8 then .var (blk p2) [.val (env17 6),dN a0.fEnd,dT a0.fHidden] 60 else .var (blk p2) [.val y5,dN a0.fEnd,dT a0.fHidden] 60),(bif D 6 then .row (env17 6) (List.map zB x19) 3 151 else .row y5 (List.map zB s6.2) 3 151),.var (blk p16) [.sl 2 (List.map zm x15.fText.fL),dN x15.fText.fN,dN x15.fRaw.fAt,dN x15.fRaw.fN,dT x15.fKept] 144]) [0,1,0,0,12,28,63,127,255] [0,4,5,14,15,16] _ (by decide +kernel) (by decide +kernel) (fun _=>Z) (fun _=>Z) ?_ (fun _=>Z) (fun _=>Z) ?_;rotate_left
 ·intro env17;show T X _ _ _;refine T.region ?_;iterate 2 refine aA rfl rfl ?_
  refine TL.nil ?_;obtain rfl:=osi q10;exact⟨m8,Nat.lt_succ_self _,_,gP [0,4,5,14,15,16] [0,1,2,3,4] Z Z Z,(env17 6),(w64 (s6.1+1),x19),Z,i11⟩
 refine aC ?_;refine zi true ?_ (fun _ _ _ _ _ _ _=>Z) ?_
 ·intro D env17 hA;have e6:D 6=false:=hA.no 6 _ rfl rfl;have e8:D 8=false:=hA.no 8 _ rfl rfl;exact zK [(6,false),(8,false)] ⟨e6,e8,trivial⟩ (Want.plain Z) (z7 3 Z Z Z Z) (fun x=>Z) (fun x=>Z)
 refine aC ?_;refine oT (.agg [.sl 2 (List.map zm x15.fText.fL),dN x15.fText.fN,dN x15.fRaw.fAt,dN x15.fRaw.fN,dT x15.fKept]) (fun _ _=>z7 5 Z Z Z Z) ?_;refine zi true ?_ (fun _ _ _ _ _ _ _=>Z) ?_
 ·intro D env17 hA;have e6:D 6=false:=hA.no 6 _ rfl rfl;have e8:D 8=false:=hA.no 8 _ rfl rfl;exact zK [(6,false),(8,false)] ⟨e6,e8,trivial⟩ (Want.plain Z) (OpR.call [0,1] fn144 (law07_Plain_c hx18) Z Z Z (fun _=>Z)) (fun x=>Z) (fun x=>Z)
 refine oT (.sl 3 (List.map zB [x18])) (fun _ _=>yN Z Z Z Z Z Z Z) ?_;refine zi true ?_ (fun D hA env17 x j hj hD=>match j,hj,hD with|0,_,_=>Z|1,_,_=>Z|2,_,_=>Z|3,_,_=>Z|4,_,_=>Z|5,_,_=>Z|6,hj,_=>absurd Z hj|7,_,_=>Z|8,_,_=>Z|_+9,_,_=>Z) ?_
 ·intro D env17 hA;have e8:D 8=false:=hA.no 8 _ rfl rfl;exact zK [(8,false),(6,false)] ⟨e8,hA.me,trivial⟩ (Want.plain Z) (zM (m:=[x18]) zB 4 hx19 Z Z Z Z Z Z Z Z Z (fun _=>Z)) (fun x=>Z) (fun x=>Z)
 refine aC ?_;refine zi true ?_ (fun _ _ _ _ _ _ _=>Z) ?_
 ·intro D env17 hA;have e6:D 6=true:=hA.yes 6 _ rfl rfl;exact zK [(6,true),(8,false)] ⟨e6,hA.me,trivial⟩ (Want.plain Z) (OpR.store 3 Z Z Z Z Z Z Z Z) (fun x=>Z) (fun x=>Z)
 exact trivial
noncomputable def wj.l1 (a0:grid_Grid) (a1:List UInt8) (s6:Int × (List ref08_Row)):Option (Lp (Int × (List ref08_Row)) (List ref08_Row)):=
 bnd (bnd (yK a0) fun x15=>
 if s6.1<x15 then
 some (decide (s6.1<1000))
else
 some false:Option Bool) fun t14=>
 if t14=true then
 bnd (wJ a0 s6.1) fun x18=>
 bnd (wl x18.1 a1) fun x21=>
 bnd (app 40 s6.2 [x21]) fun x22=>
 some (Lp.next (w64 (s6.1+1),x22))
else
 some (Lp.done s6.2)
noncomputable def wj (a0:grid_Grid) (a1:List UInt8):Option ref11_Grid:=
 bnd (loop (wj.l1 a0 a1) (0,[]):Option (List ref08_Row)) fun t3=>
 some (⟨t3,a0.fTail,a0.fEnd⟩:ref11_Grid)
theorem law11_Plain_c {a0:grid_Grid} {a1:List UInt8} {b0:Nat} {v1:Value} {res:ref11_Grid} (h0:wj a0 a1=some res):zo X 19 [dP b0,.agg [(eOP a0.fRows.fRoot),dT a0.fTail,dN a0.fEnd]] [.var b0 [.val v1] 264,.row v1 (lB a1) 1 5] (fun x=>.agg [.sl 3 (List.map zl res.fRows),dT res.fTail,dN res.fEnd]) (fun x=>[.var b0 [.val v1] 264,.row v1 (lB a1) 1 5]):=by
 unfold wj at h0;refine zb (X:=X) Z Tryz.func19 Z Z Tryz.ntmps19 Z Z ?_;refine aS ?_;refine z6 (zD Z Z) Z ?_;refine TL.op (OpR.alloc Z Z (fun _=>Z)) Z (fun p1=>?_);refine aN Z ?_;refine aS ?_;iterate 4 refine aA rfl rfl ?_
 refine z6 (OpR.build Z Z Z Z Z) Z ?_;refine TL.op (OpR.alloc Z Z (fun _=>Z)) Z (fun p2=>?_);refine zv (OpR.store 3 Z Z Z Z Z Z Z Z) ?_;refine aN Z ?_;refine T.seq ?_;refine aS ?_;refine aA Z Z ?_;refine aN Z ?_;obtain⟨t3,ht3,h0⟩:=bS h0;refine zA (fun S'=>∃ y4:Value,S'=⟨[(5,(dP (blk p2))),(4,(dP (blk p1)))],[.var b0 [.val v1] 264,.row v1 (lB a1) 1 5,.var (blk p1) [.val (.slice none 0 0),dT false,dN 0] 31,.var (blk p2) [.val y4,dT a0.fTail,dN a0.fEnd] 31,.row y4 (List.map zl t3) 3 60],39⟩) (fun _ h=>h) ?_ ?_;rotate_left
 ·rintro _ ⟨y4,rfl⟩;show T X _ _ _;refine aS ?_;refine z6 (z7 3 Z Z Z Z) Z ?_;refine zv (OpR.store 2 Z Z Z Z Z Z Z Z) ?_;refine aN Z ?_;refine T.ret ?_;obtain rfl:=osi h0;exact zE (ks:=[0,1]) (Gst.trans (Gst.only [4] Z) (Gst.trans (zC 4 Z Z (ReS.cons Re.refl ReS.nil) (ReO.same (ReO.same (ReO.var (ReL.cons (Re.base .all) (ReL.cons Re.refl (ReL.cons Re.refl ReL.nil))) (ReO.var (ReL.cons (Re.base .all) (ReL.cons Re.refl (ReL.cons Re.refl ReL.nil))) (ReO.same ReO.nil)))))) (Gst.pick [0,1,2] Z Z))) undef (cV 2 Z Z Z Z ResL.nil) Z Z Z Z
 refine T.block ?_;obtain⟨n7,n12⟩:=zy ht3;refine T.loop (fun n S'=>∃ S'',Gst S' S''∧∃ y5:Value,∃ s6:Int × (List ref08_Row),S''=⟨[(6,(dN s6.1)),(5,(dP (blk p2))),(4,(dP (blk p1))),(3,.nod [(eOP a0.fRows.fRoot),dT a0.fTail,dN a0.fEnd]),(0,(dP b0))],[.var b0 [.val v1] 264,.row v1 (lB a1) 1 5,.var (blk p1) [.val (.slice none 0 0),dT false,dN 0] 31,.var (blk p2) [.val y5,dT a0.fTail,dN a0.fEnd] 31,.row y5 (List.map zl s6.2) 3 60],39⟩∧wo (wj.l1 a0 a1) n s6=some t3) n7 ?_ ?_
 ·exact⟨_,Gst.trans (Gst.only [0,3,4,5,6] Z) (ye (ow:=[.var b0 [.val v1] 264,.row v1 (lB a1) 1 5,.var (blk p1) [.val (.slice none 0 0),dT false,dN 0] 31,.var (blk p2) [.val (.slice none 0 0),dT a0.fTail,dN a0.fEnd] 31]) 3 60 Z),(.slice none 0 0),(0,[]),Z,n12⟩
 rintro n7 _ ⟨_,g,y5,s6,rfl,i11⟩;refine T.ghost g ?_;obtain⟨m8,q9,rfl,q10,i11⟩:=zz i11;unfold wj.l1 at q10;refine T.seq ?_;refine T.seq ?_;obtain⟨t14,ht14,q10⟩:=bS q10;refine zA (fun S'=>S'=⟨[(21,(dT t14)),(6,(dN s6.1)),(5,(dP (blk p2))),(4,(dP (blk p1))),(3,.nod [(eOP a0.fRows.fRoot),dT a0.fTail,dN a0.fEnd]),(0,(dP b0))],[.var b0 [.val v1] 264,.row v1 (lB a1) 1 5,.var (blk p1) [.val (.slice none 0 0),dT false,dN 0] 31,.var (blk p2) [.val y5,dT a0.fTail,dN a0.fEnd] 31,.row y5 (List.map zl s6.2) 3 60],39⟩) (fun _ h=>h) ?_ ?_
 ·refine T.region ?_;iterate 2 refine aA rfl rfl ?_
  obtain⟨x15,hx15,ht14⟩:=bS ht14;refine z6 (zh fn22 (yQ hx15) Z) Z ?_;iterate 2 refine aA rfl rfl ?_
  rcases z9 ht14 with ⟨c16,ht14⟩|⟨c16,ht14⟩;rotate_left
  ·refine TL.off Z Z Z Z (eF c16) Z Z ?_;refine TL.off Z Z Z Z (eF c16) Z Z ?_;refine z6 (zx Z (eF c16) Z) Z ?_;refine TL.nil ?_;obtain rfl:=osi ht14;exact⟨_,Gst.only [0,3,4,5,6,21] Z,Z⟩
  refine TL.on Z Z Z Z (eT c16) ?_;refine aA Z Z ?_;refine TL.on Z Z Z Z (eT c16) ?_;refine aA Z Z ?_;refine z6 (zt Z (eT c16) Z) Z ?_;refine TL.nil ?_;obtain rfl:=osi ht14;exact⟨_,Gst.only [0,3,4,5,6,21] Z,Z⟩
 rintro _ rfl;show T X _ _ _;rcases z9 q10 with ⟨c17,q10⟩|⟨c17,q10⟩;rotate_left
 ·refine ze Z (eN c17) ?_;refine T.exit ?_;obtain rfl:=osi q10;obtain rfl:_=_:=i11;exact⟨_,Gst.only [4,5] Z,y5,Z⟩
 refine zf Z (c17) ?_;refine aK Z ?_;refine T.seq ?_;refine T.block ?_;refine aS ?_;iterate 2 refine aA rfl rfl ?_
 obtain⟨x18,hx18,q10⟩:=bS q10;refine z6 (zh fn24 (uc hx18) Z) Z ?_;iterate 3 refine aA rfl rfl ?_
 refine TL.op (OpR.alloc Z Z (fun _=>Z)) Z (fun p19=>?_);refine zv (OpR.store 5 Z Z Z Z Z Z Z Z) ?_;refine aA Z Z ?_;refine aN Z ?_;obtain⟨x21,hx21,q10⟩:=bS q10;obtain⟨x22,hx22,q10⟩:=bS q10;refine yA zV (fun env20=>[dP (blk p2),.val y5,dP b0,.agg [.sl 5 (List.map zj x18.1.fCells),dN x18.1.fEnd,dT x18.1.fHidden],.agg [.sl 3 (List.map zB x21.fCells),dN x21.fEnd,dT x21.fHidden],.sl 3 (List.map zl [x21]),.val (env20 6),dP (blk p2),.dead]) (fun D env20=>[.var b0 [.val v1] 264,.row v1 (lB a1) 1 5,.var (blk p1) [.val (.slice none 0 0),dT false,dN 0] 31,(bif D 8 then .var (blk p2) [.val (env20 6),dT a0.fTail,dN a0.fEnd] 31 else .var (blk p2) [.val y5,dT a0.fTail,dN a0.fEnd] 31),(bif D 6 then .row (env20 6) (List.map zl x22) 3 60 else .row y5 (List.map zl s6.2) 3 60),.var (blk p19) [.sl 5 (List.map zj x18.1.fCells),dN x18.1.fEnd,dT x18.1.fHidden] 49]) [0,1,0,0,12,28,63,127,255] [0,3,4,5,6] _ (by decide +kernel) (by decide +kernel) (fun _=>Z) (fun _=>Z) ?_ (fun _=>Z) (fun _=>Z) ?_;rotate_left
 ·intro env20;show T X _ _ _;refine T.region ?_;iterate 3 refine aA rfl rfl ?_
  refine TL.nil ?_;obtain rfl:=osi q10;exact⟨m8,Nat.lt_succ_self _,_,gP [0,3,4,5,6] [0,1,2,3,4] Z Z Z,(env20 6),(w64 (s6.1+1),x22),Z,i11⟩
 refine aC ?_;refine zi true ?_ (fun _ _ _ _ _ _ _=>Z) ?_
 ·intro D env20 hA;have e6:D 6=false:=hA.no 6 _ rfl rfl;have e8:D 8=false:=hA.no 8 _ rfl rfl;exact zK [(6,false),(8,false)] ⟨e6,e8,trivial⟩ (Want.plain Z) (z7 3 Z Z Z Z) (fun x=>Z) (fun x=>Z)
 refine aC ?_;refine oT (.agg [.sl 5 (List.map zj x18.1.fCells),dN x18.1.fEnd,dT x18.1.fHidden]) (fun _ _=>z7 5 Z Z Z Z) ?_;refine zi true ?_ (fun _ _ _ _ _ _ _=>Z) ?_
 ·intro D env20 hA;have e6:D 6=false:=hA.no 6 _ rfl rfl;have e8:D 8=false:=hA.no 8 _ rfl rfl;exact zK [(6,false),(8,false)] ⟨e6,e8,trivial⟩ (Want.plain Z) (OpR.call [0,1] fn75 (law08_Plain_c hx21) Z Z Z (fun _=>Z)) (fun x=>Z) (fun x=>Z)
 refine oT (.sl 3 (List.map zl [x21])) (fun _ _=>yN Z Z Z Z Z Z Z) ?_;refine zi true ?_ (fun D hA env20 x j hj hD=>match j,hj,hD with|0,_,_=>Z|1,_,_=>Z|2,_,_=>Z|3,_,_=>Z|4,_,_=>Z|5,_,_=>Z|6,hj,_=>absurd Z hj|7,_,_=>Z|8,_,_=>Z|_+9,_,_=>Z) ?_
 ·intro D env20 hA;have e8:D 8=false:=hA.no 8 _ rfl rfl;exact zK [(8,false),(6,false)] ⟨e8,hA.me,trivial⟩ (Want.plain Z) (zM (m:=[x21]) zl 4 hx22 Z Z Z Z Z Z Z Z Z (fun _=>Z)) (fun x=>Z) (fun x=>Z)
 refine aC ?_;refine zi true ?_ (fun _ _ _ _ _ _ _=>Z) ?_
 ·intro D env20 hA;have e6:D 6=true:=hA.yes 6 _ rfl rfl;exact zK [(6,true),(8,false)] ⟨e6,hA.me,trivial⟩ (Want.plain Z) (OpR.store 3 Z Z Z Z Z Z Z Z) (fun x=>Z) (fun x=>Z)
 exact trivial
noncomputable def xx.l1 (a0:ref11_Grid) (s4:Int × (List Int)):Option (Lp (Int × (List Int)) (List Int)):=
 if s4.1<(a0.fRows.length:Int) then
 bnd (idx a0.fRows s4.1) fun x13=>
 bnd (if x13.fHidden=true then
 some s4.2
else
 bnd (app 8 s4.2 [s4.1]) fun x18=>
 some x18:Option (List Int)) fun t15=>
 some (Lp.next (w64 (s4.1+1),t15))
else
 some (Lp.done s4.2)
noncomputable def xx (a0:ref11_Grid):Option (List Int):=
 bnd (loop (xx.l1 a0) (0,[]):Option (List Int)) fun t1=>
 some t1
theorem ref11_Visible_c {a0:ref11_Grid} {res:(List Int)} (h0:xx a0=some res):zo X 63 [.agg [.sl 3 (List.map zl a0.fRows),dT a0.fTail,dN a0.fEnd]] [] (fun x=>.sl 1 (List.map (eI .i64) res)) (fun x=>[]):=by
 unfold xx at h0;refine zb (X:=X) Z Tryz.func63 Z Z Tryz.ntmps63 Z Z ?_;refine aS ?_;refine z6 (zD Z Z) Z ?_;refine aA Z Z ?_;refine aN Z ?_;refine aS ?_;refine aA Z Z ?_;refine aN Z ?_;refine T.seq ?_;refine aS ?_;iterate 2 refine aA rfl rfl ?_
 refine z6 (zk (OpR.pure Z) (xn (w9 _ _))) Z ?_;refine aA Z Z ?_;refine aN Z ?_;obtain⟨t1,ht1,h0⟩:=bS h0;refine zA (fun S'=>∃ y2:Value,S'=⟨[(3,.val y2),(2,.val (.slice none 0 0))],[.row y2 (List.map (eI .i64) t1) 1 3],23⟩) (fun _ h=>h) ?_ ?_;rotate_left
 ·rintro _ ⟨y2,rfl⟩;show T X _ _ _;refine aS ?_;iterate 2 refine aA rfl rfl ?_
  refine aN Z ?_;refine T.ret ?_;obtain rfl:=osi h0;exact zE (ks:=[]) (Gst.trans (Gst.only [2] Z) (Gst.trans (zC 0 Z Z (ReS.cons (Re.base .all) ReS.nil) (ReO.same ReO.nil)) (Gst.pick [] Z Z))) undef (cT Z ResL.nil) Z Z Z Z
 refine T.block ?_;obtain⟨n5,n10⟩:=zy ht1;refine T.loop (fun n S'=>∃ S'',Gst S' S''∧∃ y3:Value,∃ s4:Int × (List Int),S''=⟨[(9,(dN s4.1)),(8,(dN (a0.fRows.length:Int))),(7,.sl 3 (List.map zl a0.fRows)),(3,.val y3),(2,.val (.slice none 0 0))],[.row y3 (List.map (eI .i64) s4.2) 1 3],23⟩∧wo (xx.l1 a0) n s4=some t1) n5 ?_ ?_
 ·exact⟨_,Gst.trans (Gst.only [2,3,7,8,9] Z) (ye (ow:=[]) 1 3 Z),(.slice none 0 0),(0,[]),Z,n10⟩
 rintro n5 _ ⟨_,g,y3,s4,rfl,i9⟩;refine T.ghost g ?_;obtain⟨m6,q7,rfl,q8,i9⟩:=zz i9;unfold xx.l1 at q8;refine aS ?_;refine aA Z Z ?_;refine aN Z ?_;refine T.seq ?_;rcases z9 q8 with ⟨c12,q8⟩|⟨c12,q8⟩;rotate_left
 ·refine ze Z (eF c12) ?_;refine T.exit ?_;obtain rfl:=osi q8;obtain rfl:_=_:=i9;exact⟨_,Gst.only [2,3] Z,y3,Z⟩
 refine zf Z (eT c12) ?_;refine aK Z ?_;refine T.seq ?_;refine T.block ?_;refine aS ?_;refine aA Z Z ?_;obtain⟨x13,hx13,q8⟩:=bS q8;refine z6 (zp zl hx13 Z Z Z Z Z) Z ?_;refine aA Z Z ?_;refine TL.op (OpR.alloc Z Z (fun _=>Z)) Z (fun p14=>?_);refine aA Z Z ?_;refine zv (OpR.store 1 Z Z Z Z Z Z Z Z) ?_;refine aN Z ?_;refine aS ?_;refine aA Z Z ?_;refine z6 (z7 1 Z Z Z Z) Z ?_;refine aA Z Z ?_;refine aN Z ?_;obtain⟨t15,ht15,q8⟩:=bS q8;refine zA (fun S'=>∃ y16:Value,S'=⟨[(9,(dN s4.1)),(8,(dN (a0.fRows.length:Int))),(7,.sl 3 (List.map zl a0.fRows)),(3,.val y16),(2,.val (.slice none 0 0))],[.row y16 (List.map (eI .i64) t15) 1 3],23⟩) (fun _ h=>h) ?_ ?_;rotate_left
 ·rintro _ ⟨y16,rfl⟩;show T X _ _ _;refine T.region ?_;iterate 2 refine aA rfl rfl ?_
  refine TL.nil ?_;obtain rfl:=osi q8;exact⟨m6,Nat.lt_succ_self _,_,Gst.only [2,3,7,8,9] Z,y16,(w64 (s4.1+1),t15),Z,i9⟩
 rcases z9 ht15 with ⟨c17,ht15⟩|⟨c17,ht15⟩
 ·refine ze Z (zQ (c17)) ?_;refine T.skip ?_;obtain rfl:=osi ht15;exact⟨_,gP [2,3,7,8,9] [0] Z Z Z,y3,Z⟩
 refine zf Z (zR (eN c17)) ?_;refine T.region ?_;iterate 2 refine aA rfl rfl ?_
 refine z6 (yN Z Z Z Z Z Z Z) Z ?_;obtain⟨x18,hx18,ht15⟩:=bS ht15;refine TL.op (zM (m:=[s4.1]) (eI .i64) 0 hx18 Z Z Z Z Z Z Z Z Z (fun _=>Z)) Z (fun v19=>?_);refine aA Z Z ?_;refine TL.nil ?_;obtain rfl:=osi ht15;exact⟨_,gP [2,3,7,8,9] [0] Z Z Z,v19,Z⟩
noncomputable def tH (a0:grid_Grid) (a1:List order_By) (a2:List UInt8):Option Bool:=
 bnd (xd a0) fun x1=>
 bnd (bnd (uD a1) fun x3=>
 if x3=true then
 bnd (vp a1 a2) fun x5=>
 bnd (yR x1.1 x5 a2) fun x7=>
 some (decide ((x7.length:Int)≤1))
else
 some false:Option Bool) fun t2=>
 some t2
theorem order_Sorted_c {a0:grid_Grid} {a1:List order_By} {a2:List UInt8} {b0:Nat} {v1:Value} {res:Bool} (h0:tH a0 a1 a2=some res):zo X 61 [.agg [(eOP a0.fRows.fRoot),dT a0.fTail,dN a0.fEnd],dP b0,.sl 2 (List.map zg a1)] [.var b0 [.val v1] 264,.row v1 (lB a2) 1 5] (fun x=>(dT res)) (fun x=>[.var b0 [.val v1] 264,.row v1 (lB a2) 1 5]):=by
 unfold tH at h0;refine zb (X:=X) Z Tryz.func61 Z Z Tryz.ntmps61 Z Z ?_;refine aS ?_;refine z6 (zD Z Z) Z ?_;refine aA Z Z ?_;refine aN Z ?_;refine aS ?_;refine aA Z Z ?_;obtain⟨x1,hx1,h0⟩:=bS h0;refine z6 (zh fn104 (sA hx1) Z) Z ?_;iterate 5 refine aA rfl rfl ?_
 refine aN Z ?_;refine T.seq ?_;obtain⟨t2,ht2,h0⟩:=bS h0;refine zA (fun S'=>S'=⟨[(6,(dT t2))],[.var b0 [.val v1] 264,.row v1 (lB a2) 1 5],25⟩) (fun _ h=>h) ?_ ?_;rotate_left
 ·rintro _ rfl;show T X _ _ _;refine T.ret ?_;obtain rfl:=osi h0;exact rO [0,1] [6] Z undef (cT Z ResL.nil) Z Z Z Z
 refine T.region ?_;refine aA Z Z ?_;obtain⟨x3,hx3,ht2⟩:=bS ht2;refine z6 (zh fn56 (rF hx3) Z) Z ?_;refine aA Z Z ?_;rcases z9 ht2 with ⟨c4,ht2⟩|⟨c4,ht2⟩;rotate_left
 ·refine TL.off Z Z Z Z (eN c4) Z Z ?_;refine TL.off Z Z Z Z (eN c4) Z Z ?_;refine TL.off Z Z Z Z (eN c4) Z Z ?_;refine TL.off Z Z Z Z (eN c4) Z Z ?_;refine TL.off Z Z Z Z (eN c4) Z Z ?_;refine TL.off Z Z Z Z (eN c4) Z Z ?_;refine TL.off Z Z Z Z (eN c4) Z Z ?_;refine z6 (zx Z (eN c4) Z) Z ?_;refine aA Z Z ?_;refine TL.nil ?_;obtain rfl:=osi ht2;exact⟨_,Gst.only [6] Z,Z⟩
 refine TL.on Z Z Z Z (c4) ?_;refine aA Z Z ?_;refine TL.on Z Z Z Z (c4) ?_;refine aA Z Z ?_;refine TL.on Z Z Z Z (c4) ?_;refine aA Z Z ?_;refine TL.on Z Z Z Z (c4) ?_;obtain⟨x5,hx5,ht2⟩:=bS ht2;refine TL.op (OpR.call [0,1] fn105 (tO hx5) Z Z Z (fun _=>Z)) Z (fun w6=>?_);refine TL.on Z Z Z Z (c4) ?_;obtain⟨x7,hx7,ht2⟩:=bS ht2;refine z6 (OpR.call [2,3,0,1] fn127 (tS hx7) Z Z Z (fun _=>Z)) Z ?_;refine TL.on Z Z Z Z (c4) ?_;refine z6 (zk (OpR.pure Z) (xn (w9 _ _))) Z ?_;refine TL.on Z Z Z Z (c4) ?_;refine aA Z Z ?_;refine z6 (zt Z (c4) Z) Z ?_;refine aA Z Z ?_;refine TL.nil ?_;obtain rfl:=osi ht2;exact⟨_,gP [6] [0,1] Z Z Z,Z⟩
noncomputable def sx (a0:List UInt8) (a1:List UInt8):Option Bool:=
 some (a0==a1)
theorem pN {a0:List UInt8} {a1:List UInt8} {res:Bool} (h0:sx a0 a1=some res):zo X 177 [.sl 1 (lB a0),.sl 1 (lB a1)] [] (fun x=>(dT res)) (fun x=>[]):=by
 unfold sx at h0;refine zb (X:=X) Z Tryz.func177 Z Z Tryz.ntmps177 Z Z ?_;refine aS ?_;refine aA Z Z ?_;refine aN Z ?_;refine aS ?_;refine aA Z Z ?_;refine z6 (qm (bs:=a0) Z Z Z Z Z Z Z) Z ?_;refine aA Z Z ?_;refine z6 (qm (bs:=a1) Z Z Z Z Z Z Z) Z ?_;refine z6 (zk (OpR.pure Z) (boolE (strEq _ _))) Z ?_;refine aA Z Z ?_;refine aN Z ?_;refine T.ret ?_;obtain rfl:=osi h0;exact rO [] [4] Z undef (cT Z ResL.nil) Z Z Z Z
noncomputable def ql (a0:cell_Cell) (a1:cell_Cell) (a2:List UInt8):Option Bool:=
 bnd (if (a0.fKept==a1.fKept)=true then
 bnd (xb a0 a2) fun x4=>
 bnd (xb a1 a2) fun x5=>
 bnd (sx x4 x5) fun x6=>
 some (!x6)
else
 some true:Option Bool) fun t1=>
 if t1=true then
 some false
else
 bnd (if a0.fKept=true then
 bnd (xz a0.fRaw a2) fun x11=>
 bnd (xz a1.fRaw a2) fun x12=>
 bnd (sx x11 x12) fun x13=>
 some x13
else
 some true:Option Bool) fun t8=>
 some t8
theorem cell_Same_c {a0:cell_Cell} {a1:cell_Cell} {a2:List UInt8} {b0:Nat} {v1:Value} {res:Bool} (h0:ql a0 a1 a2=some res):zo X 162 [dP b0,.agg [.sl 2 (List.map zm a0.fText.fL),dN a0.fText.fN,dN a0.fRaw.fAt,dN a0.fRaw.fN,dT a0.fKept],.agg [.sl 2 (List.map zm a1.fText.fL),dN a1.fText.fN,dN a1.fRaw.fAt,dN a1.fRaw.fN,dT a1.fKept]] [.var b0 [.val v1] 264,.row v1 (lB a2) 1 5] (fun x=>(dT res)) (fun x=>[.var b0 [.val v1] 264,.row v1 (lB a2) 1 5]):=by
 unfold ql at h0;refine zb (X:=X) Z Tryz.func162 Z Z Tryz.ntmps162 Z Z ?_;refine aS ?_;refine z6 (zD Z Z) Z ?_;refine z6 (zD Z Z) Z ?_;refine aA Z Z ?_;refine aN Z ?_;refine T.seq ?_;refine T.seq ?_;obtain⟨t1,ht1,h0⟩:=bS h0;refine zA (fun S'=>S'=⟨[(21,(dT t1)),(6,(dT false)),(5,.nod [.sl 2 (List.map zm a1.fText.fL),dN a1.fText.fN,dN a1.fRaw.fAt,dN a1.fRaw.fN,dT a1.fKept]),(4,.nod [.sl 2 (List.map zm a0.fText.fL),dN a0.fText.fN,dN a0.fRaw.fAt,dN a0.fRaw.fN,dT a0.fKept]),(0,(dP b0))],[.var b0 [.val v1] 264,.row v1 (lB a2) 1 5],36⟩) (fun _ h=>h) ?_ ?_
 ·rcases z9 ht1 with ⟨c3,ht1⟩|⟨c3,ht1⟩;rotate_left
  ·refine yr zV [.nod [dT a0.fKept],dT a0.fKept,.nod [dT a1.fKept],dT a1.fKept,dT (!(a0.fKept==a1.fKept)),dT (!(a0.fKept==a1.fKept)),.tup [],.tup [],.tup [],.tup [],.tup [],.tup [],.tup [],.tup [],dT true] [0,4,5,6,21] (by decide +kernel) Z ?_ Z ?_;rotate_left
   ·obtain rfl:=osi ht1;exact⟨_,Gst.only [0,4,5,6,21] Z,Z⟩
   iterate 4 refine aB rfl rfl rfl ?_
   refine zw.yes (Want.plain Z) Z (tp Z Z Z Z) ?_;refine aB Z Z Z ?_;refine zw.no (Want.bool rfl rfl rfl rfl (by rw[(zR (eN c3))]; rfl)) rfl ?_;refine zw.no (Want.bool rfl rfl rfl rfl (by rw[(zR (eN c3))]; rfl)) rfl ?_;refine zw.no (Want.bool rfl rfl rfl rfl (by rw[(zR (eN c3))]; rfl)) rfl ?_;refine zw.no (Want.bool rfl rfl rfl rfl (by rw[(zR (eN c3))]; rfl)) rfl ?_;refine zw.no (Want.bool rfl rfl rfl rfl (by rw[(zR (eN c3))]; rfl)) rfl ?_;refine zw.no (Want.bool rfl rfl rfl rfl (by rw[(zR (eN c3))]; rfl)) rfl ?_;refine zw.no (Want.bool rfl rfl rfl rfl (by rw[(zR (eN c3))]; rfl)) rfl ?_;refine zw.no (Want.bool rfl rfl rfl rfl (by rw[(zR (eN c3))]; rfl)) rfl ?_;refine zw.yes (Want.plain Z) Z (zt Z (zR (eN c3)) Z) ?_;exact zw.nil
  obtain⟨x4,hx4,ht1⟩:=bS ht1;obtain⟨x5,hx5,ht1⟩:=bS ht1;obtain⟨x6,hx6,ht1⟩:=bS ht1;refine yr zV [.nod [dT a0.fKept],dT a0.fKept,.nod [dT a1.fKept],dT a1.fKept,dT (!(a0.fKept==a1.fKept)),dT (!(a0.fKept==a1.fKept)),.agg [.sl 2 (List.map zm a0.fText.fL),dN a0.fText.fN,dN a0.fRaw.fAt,dN a0.fRaw.fN,dT a0.fKept],dP b0,.sl 1 (lB x4),.agg [.sl 2 (List.map zm a1.fText.fL),dN a1.fText.fN,dN a1.fRaw.fAt,dN a1.fRaw.fN,dT a1.fKept],dP b0,.sl 1 (lB x5),dT x6,dT (!x6),dT (!x6)] [0,4,5,6,21] (by decide +kernel) Z ?_ Z ?_;rotate_left
  ·obtain rfl:=osi ht1;exact⟨_,Gst.only [0,4,5,6,21] Z,Z⟩
  iterate 4 refine aB rfl rfl rfl ?_
  refine zw.yes (Want.plain Z) Z (tp Z Z Z Z) ?_;refine aB Z Z Z ?_;refine zw.yes (Want.bool rfl rfl rfl rfl (by rw[(zQ (c3))]; rfl)) rfl (OpR.pure rfl) ?_;refine zw.yes (Want.bool rfl rfl rfl rfl (by rw[(zQ (c3))]; rfl)) rfl (OpR.pure rfl) ?_;refine zw.yes (Want.bool rfl rfl rfl rfl (by rw[(zQ (c3))]; rfl)) rfl (OpR.call [0,1] fn113 (wV hx4) rfl rfl rfl (fun _=>rfl)) ?_;refine zw.yes (Want.bool rfl rfl rfl rfl (by rw[(zQ (c3))]; rfl)) rfl (OpR.pure rfl) ?_;refine zw.yes (Want.bool rfl rfl rfl rfl (by rw[(zQ (c3))]; rfl)) rfl (OpR.pure rfl) ?_;refine zw.yes (Want.bool rfl rfl rfl rfl (by rw[(zQ (c3))]; rfl)) rfl (OpR.call [0,1] fn113 (wV hx5) rfl rfl rfl (fun _=>rfl)) ?_;refine zw.yes (Want.bool rfl rfl rfl rfl (by rw[(zQ (c3))]; rfl)) rfl (zh fn177 (pN hx6) rfl) ?_;refine zw.yes (Want.bool rfl rfl rfl rfl (by rw[(zQ (c3))]; rfl)) rfl (OpR.pure rfl) ?_;refine zw.yes (Want.plain Z) Z (zx Z (zQ (c3)) Z) ?_;exact zw.nil
 rintro _ rfl;show T X _ _ _;rcases z9 h0 with ⟨c7,h0⟩|⟨c7,h0⟩
 ·refine zf Z (c7) ?_;refine aS ?_;refine aA Z Z ?_;refine aN Z ?_;refine T.ret ?_;obtain rfl:=osi h0;exact rO [0,1] [6] Z undef (cT Z ResL.nil) Z Z Z Z
 refine ze Z (eN c7) ?_;refine aK Z ?_;refine T.seq ?_;obtain⟨t8,ht8,h0⟩:=bS h0;refine zA (fun S'=>S'=⟨[(6,(dT t8))],[.var b0 [.val v1] 264,.row v1 (lB a2) 1 5],36⟩) (fun _ h=>h) ?_ ?_;rotate_left
 ·rintro _ rfl;show T X _ _ _;refine T.ret ?_;obtain rfl:=osi h0;exact rO [0,1] [6] Z undef (cT Z ResL.nil) Z Z Z Z
 rcases z9 ht8 with ⟨c10,ht8⟩|⟨c10,ht8⟩;rotate_left
 ·refine yr zV [.nod [dT a0.fKept],dT a0.fKept,dT (!a0.fKept),dT (!a0.fKept),.tup [],.tup [],.tup [],.tup [],.tup [],.tup [],.tup [],.tup [],.tup [],dT true,dT true] [6] (by decide +kernel) Z ?_ Z ?_;rotate_left
  ·obtain rfl:=osi ht8;exact⟨_,Gst.only [6] Z,Z⟩
  iterate 4 refine aB rfl rfl rfl ?_
  refine zw.no (Want.bool rfl rfl rfl rfl (by rw[(zR (eN c10))]; rfl)) rfl ?_;refine zw.no (Want.bool rfl rfl rfl rfl (by rw[(zR (eN c10))]; rfl)) rfl ?_;refine zw.no (Want.bool rfl rfl rfl rfl (by rw[(zR (eN c10))]; rfl)) rfl ?_;refine zw.no (Want.bool rfl rfl rfl rfl (by rw[(zR (eN c10))]; rfl)) rfl ?_;refine zw.no (Want.bool rfl rfl rfl rfl (by rw[(zR (eN c10))]; rfl)) rfl ?_;refine zw.no (Want.bool rfl rfl rfl rfl (by rw[(zR (eN c10))]; rfl)) rfl ?_;refine zw.no (Want.bool rfl rfl rfl rfl (by rw[(zR (eN c10))]; rfl)) rfl ?_;refine zw.no (Want.bool rfl rfl rfl rfl (by rw[(zR (eN c10))]; rfl)) rfl ?_;refine zw.no (Want.bool rfl rfl rfl rfl (by rw[(zR (eN c10))]; rfl)) rfl ?_;refine zw.yes (Want.plain Z) Z (zt Z (zR (eN c10)) Z) ?_;refine aB Z Z Z ?_;exact zw.nil
 obtain⟨x11,hx11,ht8⟩:=bS ht8;obtain⟨x12,hx12,ht8⟩:=bS ht8;obtain⟨x13,hx13,ht8⟩:=bS ht8;refine yr zV [.nod [dT a0.fKept],dT a0.fKept,dT (!a0.fKept),dT (!a0.fKept),dP b0,.nod [dN a0.fRaw.fAt,dN a0.fRaw.fN,dT a0.fKept],.agg [dN a0.fRaw.fAt,dN a0.fRaw.fN],.sl 1 (lB x11),dP b0,.nod [dN a1.fRaw.fAt,dN a1.fRaw.fN,dT a1.fKept],.agg [dN a1.fRaw.fAt,dN a1.fRaw.fN],.sl 1 (lB x12),dT x13,dT x13,dT x13] [6] (by decide +kernel) Z ?_ Z ?_;rotate_left
 ·obtain rfl:=osi ht8;exact⟨_,Gst.only [6] Z,Z⟩
 iterate 4 refine aB rfl rfl rfl ?_
 refine zw.yes (Want.bool rfl rfl rfl rfl (by rw[(zQ (c10))]; rfl)) rfl (OpR.pure rfl) ?_;refine zw.yes (Want.bool rfl rfl rfl rfl (by rw[(zQ (c10))]; rfl)) rfl (OpR.pure rfl) ?_;refine zw.yes (Want.bool rfl rfl rfl rfl (by rw[(zQ (c10))]; rfl)) rfl (OpR.pure rfl) ?_;refine zw.yes (Want.bool rfl rfl rfl rfl (by rw[(zQ (c10))]; rfl)) rfl (OpR.call [0,1] fn201 (v8 hx11) rfl rfl rfl (fun _=>rfl)) ?_;refine zw.yes (Want.bool rfl rfl rfl rfl (by rw[(zQ (c10))]; rfl)) rfl (OpR.pure rfl) ?_;refine zw.yes (Want.bool rfl rfl rfl rfl (by rw[(zQ (c10))]; rfl)) rfl (OpR.pure rfl) ?_;refine zw.yes (Want.bool rfl rfl rfl rfl (by rw[(zQ (c10))]; rfl)) rfl (OpR.pure rfl) ?_;refine zw.yes (Want.bool rfl rfl rfl rfl (by rw[(zQ (c10))]; rfl)) rfl (OpR.call [0,1] fn201 (v8 hx12) rfl rfl rfl (fun _=>rfl)) ?_;refine zw.yes (Want.bool rfl rfl rfl rfl (by rw[(zQ (c10))]; rfl)) rfl (zh fn177 (pN hx13) rfl) ?_;refine zw.yes (Want.plain Z) Z (zx Z (zQ (c10)) Z) ?_;refine aB Z Z Z ?_;exact zw.nil
noncomputable def qI (a0:cell_Cell) (a1:cell_Cell) (a2:List UInt8):Option Bool:=
 bnd (ql a0 a1 a2) fun x1=>
 some x1
theorem row_Same_1_c {a0:cell_Cell} {a1:cell_Cell} {a2:List UInt8} {b0:Nat} {b1:Nat} {v2:Value} {res:Bool} (h0:qI a0 a1 a2=some res):zo X 161 [.agg [.sl 2 (List.map zm a0.fText.fL),dN a0.fText.fN,dN a0.fRaw.fAt,dN a0.fRaw.fN,dT a0.fKept],.agg [.sl 2 (List.map zm a1.fText.fL),dN a1.fText.fN,dN a1.fRaw.fAt,dN a1.fRaw.fN,dT a1.fKept],dP b0] [.var b0 [dP b1] 28,.var b1 [.val v2] 264,.row v2 (lB a2) 1 5] (fun x=>(dT res)) (fun x=>[.var b0 [dP b1] 28,.var b1 [.val v2] 264,.row v2 (lB a2) 1 5]):=by
 unfold qI at h0;refine zb (X:=X) Z Tryz.func161 Z Z Tryz.ntmps161 Z Z ?_;refine aS ?_;refine z6 (zD Z Z) Z ?_;refine z6 (zD Z Z) Z ?_;refine aA Z Z ?_;refine aN Z ?_;refine aS ?_;refine z6 (z7 0 Z Z Z Z) Z ?_;iterate 2 refine aA rfl rfl ?_
 obtain⟨x1,hx1,h0⟩:=bS h0;refine z6 (OpR.call [1,2] fn162 (cell_Same_c hx1) Z Z Z (fun _=>Z)) Z ?_;refine aA Z Z ?_;refine aN Z ?_;refine T.ret ?_;obtain rfl:=osi h0;exact rO [0,1,2] [5] Z undef (cT Z ResL.nil) Z Z Z Z
noncomputable def zq.l1 (a0:List cell_Cell) (a1:List cell_Cell) (a2:List UInt8) (s4:Int):Option (Lp Int (Ex Unit Bool)):=
 if s4<(a0.length:Int) then
 bnd (idx a0 s4) fun x13=>
 bnd (idx a1 s4) fun x15=>
 bnd (qI x13 x15 a2) fun x17=>
 if x17=true then
 some (Lp.next (w64 (s4+1)))
else
 some (Lp.done (Ex.ret false))
else
 some (Lp.done (Ex.brk ()))
noncomputable def zq (a0:List cell_Cell) (a1:List cell_Cell) (a2:List UInt8):Option Bool:=
 if (a0.length:Int)=(a1.length:Int) then
 bnd (loop (zq.l1 a0 a1 a2) 0:Option (Ex Unit Bool)) fun t2=>match t2 with
| .brk u3=>
 some true
| .ret u3=>some u3
else
 some false
theorem wu {a0:List cell_Cell} {a1:List cell_Cell} {a2:List UInt8} {b0:Nat} {b1:Nat} {v2:Value} {res:Bool} (h0:zq a0 a1 a2=some res):zo X 160 [.sl 5 (List.map zj a0),.sl 5 (List.map zj a1),.fn (.func 161) [] [dP b0]] [.var b0 [dP b1] 28,.var b1 [.val v2] 264,.row v2 (lB a2) 1 5] (fun x=>(dT res)) (fun x=>[.var b0 [dP b1] 28,.var b1 [.val v2] 264,.row v2 (lB a2) 1 5]):=by
 unfold zq at h0;refine zb (X:=X) Z Tryz.func160 Z Z Tryz.ntmps160 Z Z ?_;refine aS ?_;refine aA Z Z ?_;refine aN Z ?_;refine T.seq ?_;refine aS ?_;refine aA Z Z ?_;refine z6 (zk (OpR.pure Z) (xn (w9 _ _))) Z ?_;refine aA Z Z ?_;refine z6 (zk (OpR.pure Z) (xn (w9 _ _))) Z ?_;refine aA Z Z ?_;refine aN Z ?_;rcases z9 h0 with ⟨c1,h0⟩|⟨c1,h0⟩;rotate_left
 ·refine zf Z (zR (beq_eq_false_iff_ne.2 c1)) ?_;refine aS ?_;refine aA Z Z ?_;refine aN Z ?_;refine T.ret ?_;obtain rfl:=osi h0;exact rO [0,1,2] [6] Z undef (cT Z ResL.nil) Z Z Z Z
 refine ze Z (zQ (beq_iff_eq.2 c1)) ?_;refine aK Z ?_;refine T.seq ?_;refine aS ?_;refine aA Z Z ?_;refine z6 (zk (OpR.pure Z) (xn (w9 _ _))) Z ?_;refine aA Z Z ?_;refine aN Z ?_;obtain⟨t2,ht2,h0⟩:=bS h0;refine zA (fun S'=>∃ u3,t2=Ex.brk u3∧S'=⟨[(6,(dT false))],[.var b0 [dP b1] 28,.var b1 [.val v2] 264,.row v2 (lB a2) 1 5],32⟩) (fun _ h=>h) ?_ ?_;rotate_left
 ·rintro _ ⟨u3,rfl,rfl⟩;show T X _ _ _;refine aS ?_;refine aA Z Z ?_;refine aN Z ?_;refine T.ret ?_;obtain rfl:=osi h0;exact rO [0,1,2] [6] Z undef (cT Z ResL.nil) Z Z Z Z
 refine T.block ?_;obtain⟨n5,n10⟩:=zy ht2;refine T.loop (fun n S'=>∃ S'',Gst S' S''∧∃ s4:Int,S''=⟨[(17,(dN s4)),(16,(dN (a0.length:Int))),(15,.sl 5 (List.map zj a0)),(6,(dT false)),(2,.fn (.func 161) [] [dP b0]),(1,.sl 5 (List.map zj a1))],[.var b0 [dP b1] 28,.var b1 [.val v2] 264,.row v2 (lB a2) 1 5],32⟩∧wo (zq.l1 a0 a1 a2) n s4=some t2) n5 ?_ ?_
 ·exact⟨_,Gst.only [1,2,6,15,16,17] Z,0,Z,n10⟩
 rintro n5 _ ⟨_,g,s4,rfl,i9⟩;refine T.ghost g ?_;obtain⟨m6,q7,rfl,q8,i9⟩:=zz i9;unfold zq.l1 at q8;refine aS ?_;refine aA Z Z ?_;refine aN Z ?_;refine T.seq ?_;rcases z9 q8 with ⟨c12,q8⟩|⟨c12,q8⟩;rotate_left
 ·refine ze Z (eF c12) ?_;refine T.exit ?_;obtain rfl:=osi q8;obtain rfl:_=_:=i9;exact⟨_,Gst.only [6] Z,_,Z,Z⟩
 refine zf Z (eT c12) ?_;refine aK Z ?_;refine T.seq ?_;refine T.block ?_;refine aS ?_;refine aA Z Z ?_;obtain⟨x13,hx13,q8⟩:=bS q8;refine z6 (zp zj hx13 Z Z Z Z Z) Z ?_;refine aA Z Z ?_;refine TL.op (OpR.alloc Z Z (fun _=>Z)) Z (fun p14=>?_);refine aA Z Z ?_;refine zv (OpR.store 3 Z Z Z Z Z Z Z Z) ?_;refine aN Z ?_;refine aS ?_;iterate 2 refine aA rfl rfl ?_
 obtain⟨x15,hx15,q8⟩:=bS q8;refine z6 (zp zj hx15 Z Z Z Z Z) Z ?_;refine aA Z Z ?_;refine TL.op (OpR.alloc Z Z (fun _=>Z)) Z (fun p16=>?_);refine zv (OpR.store 4 Z Z Z Z Z Z Z Z) ?_;refine aN Z ?_;refine aS ?_;refine aA Z Z ?_;refine z6 (z7 3 Z Z Z Z) Z ?_;refine z6 (z7 4 Z Z Z Z) Z ?_;obtain⟨x17,hx17,q8⟩:=bS q8;refine z6 (vX [0,1,2] Z fn161 (row_Same_1_c hx17) Z Z Z (fun _=>Z)) Z ?_;refine aA Z Z ?_;refine aN Z ?_;rcases z9 q8 with ⟨c18,q8⟩|⟨c18,q8⟩
 ·refine ze Z (zQ (c18)) ?_;refine aK Z ?_;refine T.region ?_;iterate 2 refine aA rfl rfl ?_
  refine TL.nil ?_;obtain rfl:=osi q8;exact⟨m6,Nat.lt_succ_self _,_,gP [1,2,6,15,16,17] [0,1,2] Z Z Z,w64 (s4+1),Z,i9⟩
 refine zf Z (zR (eN c18)) ?_;refine aS ?_;refine aA Z Z ?_;refine aN Z ?_;refine T.ret ?_;obtain rfl:=osi q8;obtain rfl:_=_:=i9;obtain rfl:=osi h0;exact rP [0,1,2] [6] [0,1,2] Z Z Z undef (cT Z ResL.nil) Z Z Z Z
noncomputable def pv (a0:row_Row) (a1:row_Row) (a2:List UInt8):Option Bool:=
 bnd (if a0.fEnd=a1.fEnd then
 some (!(a0.fHidden==a1.fHidden))
else
 some true:Option Bool) fun t2=>
 if t2=true then
 some false
else
 bnd (zq a0.fCells a1.fCells a2) fun x5=>
 some x5
theorem row_Same_c {a0:row_Row} {a1:row_Row} {a2:List UInt8} {b0:Nat} {v1:Value} {res:Bool} (h0:pv a0 a1 a2=some res):zo X 88 [dP b0,.agg [.sl 5 (List.map zj a0.fCells),dN a0.fEnd,dT a0.fHidden],.agg [.sl 5 (List.map zj a1.fCells),dN a1.fEnd,dT a1.fHidden]] [.var b0 [.val v1] 264,.row v1 (lB a2) 1 5] (fun x=>(dT res)) (fun x=>[.var b0 [.val v1] 264,.row v1 (lB a2) 1 5]):=by
 unfold pv at h0;refine zb (X:=X) Z Tryz.func88 Z Z Tryz.ntmps88 Z Z ?_;refine aS ?_;refine TL.op (xG Z Z (fun _=>Z)) Z (fun p1=>?_);refine z6 (zD Z Z) Z ?_;refine z6 (zD Z Z) Z ?_;refine aA Z Z ?_;refine aN Z ?_;refine T.seq ?_;refine T.seq ?_;obtain⟨t2,ht2,h0⟩:=bS h0;refine zA (fun S'=>S'=⟨[(18,(dT t2)),(6,(dT false)),(5,.nod [.sl 5 (List.map zj a1.fCells),dN a1.fEnd,dT a1.fHidden]),(4,.nod [.sl 5 (List.map zj a0.fCells),dN a0.fEnd,dT a0.fHidden]),(3,(dP (blk p1)))],[.var b0 [.val v1] 264,.row v1 (lB a2) 1 5,.var (blk p1) [dP b0] 28],25⟩) (fun _ h=>h) ?_ ?_;rotate_left
 ·rintro _ rfl;show T X _ _ _;rcases z9 h0 with ⟨c4,h0⟩|⟨c4,h0⟩
  ·refine zf Z (c4) ?_;refine aS ?_;refine aA Z Z ?_;refine aN Z ?_;refine T.ret ?_;obtain rfl:=osi h0;exact rP [0,1] [6] [0,1] Z Z Z undef (cT Z ResL.nil) Z Z Z Z
  refine ze Z (eN c4) ?_;refine aK Z ?_;refine aS ?_;iterate 5 refine aA rfl rfl ?_
  obtain⟨x5,hx5,h0⟩:=bS h0;refine z6 (OpR.call [2,0,1] fn160 (wu hx5) Z Z Z (fun _=>Z)) Z ?_;refine aA Z Z ?_;refine aN Z ?_;refine T.ret ?_;obtain rfl:=osi h0;exact rP [0,1] [6] [0,1] Z Z Z undef (cT Z ResL.nil) Z Z Z Z
 refine T.region ?_;iterate 6 refine aA rfl rfl ?_
 rcases z9 ht2 with ⟨c3,ht2⟩|⟨c3,ht2⟩;rotate_left
 ·refine TL.off Z Z Z Z (zR (beq_eq_false_iff_ne.2 c3)) Z Z ?_;refine TL.off Z Z Z Z (zR (beq_eq_false_iff_ne.2 c3)) Z Z ?_;refine TL.off Z Z Z Z (zR (beq_eq_false_iff_ne.2 c3)) Z Z ?_;refine TL.off Z Z Z Z (zR (beq_eq_false_iff_ne.2 c3)) Z Z ?_;refine TL.off Z Z Z Z (zR (beq_eq_false_iff_ne.2 c3)) Z Z ?_;refine z6 (zt Z (zR (beq_eq_false_iff_ne.2 c3)) Z) Z ?_;refine TL.nil ?_;obtain rfl:=osi ht2;exact⟨_,Gst.only [3,4,5,6,18] Z,Z⟩
 refine TL.on Z Z Z Z (zQ (beq_iff_eq.2 c3)) ?_;refine aA Z Z ?_;refine TL.on Z Z Z Z (zQ (beq_iff_eq.2 c3)) ?_;refine aA Z Z ?_;refine TL.on Z Z Z Z (zQ (beq_iff_eq.2 c3)) ?_;refine aA Z Z ?_;refine TL.on Z Z Z Z (zQ (beq_iff_eq.2 c3)) ?_;refine aA Z Z ?_;refine TL.on Z Z Z Z (zQ (beq_iff_eq.2 c3)) ?_;refine z6 (tp Z Z Z Z) Z ?_;refine z6 (zx Z (zQ (beq_iff_eq.2 c3)) Z) Z ?_;refine TL.nil ?_;obtain rfl:=osi ht2;exact⟨_,Gst.only [3,4,5,6,18] Z,Z⟩
noncomputable def wM (a0:Int) (a1:row_Row) (a2:Option NP) (a3:Bool) (a4:Int) (a5:Bool) (a6:List UInt8):Option (Unit ⊕ Bool):=
 bnd (wJ (⟨(⟨a2⟩:tTr),a3,a4⟩:grid_Grid) a0) fun x32=>
 bnd (pv a1 x32.1 a6) fun x34=>
 if x34=true then
 some (Sum.inl ())
else
 some (Sum.inr false)
theorem p9 {a0:Int} {a1:row_Row} {a2:Option NP} {a3:Bool} {a4:Int} {a5:Bool} {a6:List UInt8} {b0:Nat} {b1:Nat} {b2:Nat} {v3:Value} {res:Unit ⊕ Bool} (h0:wM a0 a1 a2 a3 a4 a5 a6=some res):sY X b0 [dN a0,.agg [.sl 5 (List.map zj a1.fCells),dN a1.fEnd,dT a1.fHidden]] [.lp b0 .ready none [35,36] ve vd [(6,(dP b2)),(5,.nod [(eOP a2),dT a3,dN a4]),(3,.nod [dP b1])] 48,.var b1 [.val v3] 264,.var b2 [dT a5] 4,.row v3 (lB a6) 1 5] (fun x=>(match res with | .inl res=>(dT true) | .inr res=>(dT false))) (fun x=>(match res with | .inl res=>[.lp b0 .ready none [35,36] ve vd [(6,(dP b2)),(5,.nod [(eOP a2),dT a3,dN a4]),(3,.nod [dP b1])] 48,.var b1 [.val v3] 264,.var b2 [dT a5] 4,.row v3 (lB a6) 1 5] | .inr res=>[.lp b0 .done (some (.ret)) [35,36] ve vd [(6,(dP b2)),(5,.nod [(eOP a2),dT a3,dN a4]),(3,.nod [dP b1])] 48,.var b1 [.val v3] 264,.var b2 [dT res] 4,.row v3 (lB a6) 1 5])):=by
 unfold wM at h0;refine sY.mk (X:=X) Z Z Z ?_;refine aS ?_;refine aA Z Z ?_;refine TL.nil ?_;show T (X.inR b0) _ _ _;refine T.region ?_;refine TL.op (OpR.alloc Z Z (fun _=>Z)) Z (fun p31=>?_);refine zv (OpR.store 4 Z Z Z Z Z Z Z Z) ?_;refine TL.nil ?_;refine RoundA.mk ?_;refine T.block ?_;refine aS ?_;iterate 2 refine aA rfl rfl ?_
 obtain⟨x32,hx32,h0⟩:=bS h0;refine z6 (zh fn24 (uc hx32) Z) Z ?_;iterate 3 refine aA rfl rfl ?_
 refine TL.op (OpR.alloc Z Z (fun _=>Z)) Z (fun p33=>?_);refine zv (OpR.store 5 Z Z Z Z Z Z Z Z) ?_;refine aA Z Z ?_;refine TL.nil ?_;show T (X.inR b0) _ _ _;refine aS ?_;refine aA Z Z ?_;refine z6 (z7 4 Z Z Z Z) Z ?_;refine z6 (z7 5 Z Z Z Z) Z ?_;obtain⟨x34,hx34,h0⟩:=bS h0;refine z6 (OpR.call [1,3] fn88 (row_Same_c hx34) Z Z Z (fun _=>Z)) Z ?_;refine aA Z Z ?_;refine TL.nil ?_;show T (X.inR b0) _ _ _;rcases z9 h0 with ⟨c35,h0⟩|⟨c35,h0⟩
 ·refine ze Z (zQ (c35)) ?_;refine T.skip ?_;obtain rfl:=osi h0;exact sX.mk (ks:=[0,1,2,3]) (gP [] [0,1,2,3] Z Z Z) undef Z Z Z Z Z
 refine zf Z (zR (eN c35)) ?_;refine aS ?_;refine zv (OpR.store 2 Z Z Z Z Z Z Z Z) ?_;refine TL.nil ?_;show T (X.inR b0) _ _ _;refine T.ret ?_;obtain rfl:=osi h0;exact sX.mk (ks:=[0,1,2,3]) (gP [] [0,1,2,3] Z Z Z) undef Z Z Z Z Z
theorem grid_Same_r0_cx1 {a0:Int} {a1:row_Row} {a2:Option NP} {a3:Bool} {a4:Int} {a5:Bool} {a6:List UInt8} {b0:Nat} {b1:Nat} {b2:Nat} {v3:Value} {res:Unit} (h0:wM a0 a1 a2 a3 a4 a5 a6=some (Sum.inl res)):sY X b0 [dN a0,.agg [.sl 5 (List.map zj a1.fCells),dN a1.fEnd,dT a1.fHidden]] [.lp b0 .ready none [35,36] ve vd [(6,(dP b2)),(5,.nod [(eOP a2),dT a3,dN a4]),(3,.nod [dP b1])] 48,.var b1 [.val v3] 264,.var b2 [dT a5] 4,.row v3 (lB a6) 1 5] (fun x=>(dT true)) (fun x=>[.lp b0 .ready none [35,36] ve vd [(6,(dP b2)),(5,.nod [(eOP a2),dT a3,dN a4]),(3,.nod [dP b1])] 48,.var b1 [.val v3] 264,.var b2 [dT a5] 4,.row v3 (lB a6) 1 5]):=p9 h0
theorem grid_Same_r0_cx2 {a0:Int} {a1:row_Row} {a2:Option NP} {a3:Bool} {a4:Int} {a5:Bool} {a6:List UInt8} {b0:Nat} {b1:Nat} {b2:Nat} {v3:Value} {res:Bool} (h0:wM a0 a1 a2 a3 a4 a5 a6=some (Sum.inr res)):sY X b0 [dN a0,.agg [.sl 5 (List.map zj a1.fCells),dN a1.fEnd,dT a1.fHidden]] [.lp b0 .ready none [35,36] ve vd [(6,(dP b2)),(5,.nod [(eOP a2),dT a3,dN a4]),(3,.nod [dP b1])] 48,.var b1 [.val v3] 264,.var b2 [dT a5] 4,.row v3 (lB a6) 1 5] (fun x=>(dT false)) (fun x=>[.lp b0 .done (some (.ret)) [35,36] ve vd [(6,(dP b2)),(5,.nod [(eOP a2),dT a3,dN a4]),(3,.nod [dP b1])] 48,.var b1 [.val v3] 264,.var b2 [dT res] 4,.row v3 (lB a6) 1 5]):=p9 h0
noncomputable def yk.l1 (a0:Option NP) (a1:Bool) (a2:Int) (a4:Int) (a6:Bool) (a7:List UInt8) (s9:Int × (List wFr)):Option (Lp (Int × (List wFr)) (Ex Unit (Unit ⊕ Bool))):=
 if s9.1<a4 then
  bnd (ya s9.2) fun x18=>
  bnd (idx s9.2 x18) fun x19=>
  bnd (some x19.fN) fun q20=>match q20 with
   | none=>
    none
   | some z21=>
    bnd (vi z21) fun x23=>
    bnd (if x19.fNext=(x23.fItems.length:Int) then
     bnd (zL s9.2) fun x28=>
     some x28.2
    else
     some s9.2:Option (List wFr)) fun t25=>
    bnd (ya t25) fun x30=>
    bnd (idx t25 x30) fun x31=>
    bnd (some x31.fN) fun q32=>match q32 with
     | none=>
      none
     | some z33=>
      bnd (vi z33) fun x35=>
      bnd (idx x35.fItems x31.fNext) fun x37=>
      bnd (wM s9.1 x37 a0 a1 a2 a6 a7) fun x38=>
      match x38 with
      | .inl x38=>
       some (Lp.next (w64 (s9.1+1),(t25.set x30.toNat (⟨x31.fN,x31.fFirst,w64 (x31.fNext+1)⟩:wFr))))
      | .inr x38=>
       some (Lp.done (Ex.ret (Sum.inr x38)))
 else
  some (Lp.done (Ex.brk ()))
noncomputable def yk (a0:Option NP) (a1:Bool) (a2:Int) (a3:Int) (a4:Int) (a5:Option NP) (a6:Bool) (a7:List UInt8):Option (Unit ⊕ Bool):=
 if a3=a4 then
  some (Sum.inl ())
 else
  bnd (ym (⟨a5⟩:tTr)) fun x4=>
  match x4 with
  | .inl x4=>
   none
  | .inr x4=>
   bnd (zJ x4.1 x4.2.1 x4.2.2 0 a3) fun x5=>
   bnd (loop (yk.l1 a0 a1 a2 a4 a6 a7) (a3,x5):Option (Ex Unit (Unit ⊕ Bool))) fun t6=>match t6 with
    | .brk u7=>
     some (Sum.inl ())
    | .ret u7=>some u7
theorem uJ {a0:Option NP} {a1:Bool} {a2:Int} {a3:Int} {a4:Int} {a5:Option NP} {a6:Bool} {a7:List UInt8} {b0:Nat} {b1:Nat} {b2:Nat} {b3:Nat} {b4:Nat} {b5:Nat} {v6:Value} {res:Unit ⊕ Bool} (h0:yk a0 a1 a2 a3 a4 a5 a6 a7=some res):zo X 146 [.fn (.yield b0) [] [],dP b1,dP b2,dP b3] [.lp b0 .ready none [35,36] ve vd [(6,(dP b5)),(5,.nod [(eOP a0),dT a1,dN a2]),(3,.nod [dP b4])] 48,.var b1 [dN a3] 3,.var b2 [dN a4] 3,.var b3 [(eOP a5)] 25,.var b4 [.val v6] 264,.var b5 [dT a6] 4,.row v6 (lB a7) 1 5] (fun x=>(match res with | .inl res=>.tup [] | .inr res=>.tup [])) (fun x=>(match res with | .inl res=>[.lp b0 .ready none [35,36] ve vd [(6,(dP b5)),(5,.nod [(eOP a0),dT a1,dN a2]),(3,.nod [dP b4])] 48,.var b1 [dN a3] 3,.var b2 [dN a4] 3,.var b3 [(eOP a5)] 25,.var b4 [.val v6] 264,.var b5 [dT a6] 4,.row v6 (lB a7) 1 5] | .inr res=>[.lp b0 .done (some (.ret)) [35,36] ve vd [(6,(dP b5)),(5,.nod [(eOP a0),dT a1,dN a2]),(3,.nod [dP b4])] 48,.var b1 [dN a3] 3,.var b2 [dN a4] 3,.var b3 [(eOP a5)] 25,.var b4 [.val v6] 264,.var b5 [dT res] 4,.row v6 (lB a7) 1 5])):=by
 unfold yk at h0;refine zb (X:=X) Z Tryz.func146 Z Z Tryz.ntmps146 Z Z ?_;refine T.seq ?_;refine aS ?_;refine z6 (z7 1 Z Z Z Z) Z ?_;refine z6 (z7 2 Z Z Z Z) Z ?_;refine aA Z Z ?_;refine aN Z ?_;rcases z9 h0 with ⟨c1,h0⟩|⟨c1,h0⟩
 ·refine zf Z (beq_iff_eq.2 c1) ?_;refine T.ret ?_;obtain rfl:=osi h0;exact rO [0,1,2,3,4,5,6] [] Z undef ResL.nil Z Z Z Z
 refine ze Z (beq_eq_false_iff_ne.2 c1) ?_;refine aK Z ?_;refine aS ?_;refine TL.op (OpR.alloc Z Z (fun _=>Z)) Z (fun p2=>?_);refine aN Z ?_;refine T.seq ?_;obtain⟨x4,hx4,h0⟩:=bS h0;rcases x4 with x4|x4
 ·dsimp only at h0;exact (by cases h0)
 dsimp only at h0;obtain⟨x5,hx5,h0⟩:=bS h0;refine yA zV (fun env3=>[.agg [(eOP a5)],.nod [.sl 1 (List.map eNP x4.1),.sl 3 (List.map z8 x4.2.1),dN x4.2.2],dN a3,.tup []]) (fun D env3=>[.lp b0 .ready none [35,36] ve vd [(6,(dP b5)),(5,.nod [(eOP a0),dT a1,dN a2]),(3,.nod [dP b4])] 48,.var b1 [dN a3] 3,.var b2 [dN a4] 3,.var b3 [(eOP a5)] 25,.var b4 [.val v6] 264,.var b5 [dT a6] 4,.row v6 (lB a7) 1 5,(bif D 3 then .var (blk p2) [.val (vn (env3 3) 0)] 228 else .var (blk p2) [.val (.slice none 0 0)] 228)]++(bif D 3 then [.row (vn (env3 3) 0) (List.map yF x5) 3 234] else [])) [0,1,0,7] [0,1,2,5] _ (by decide +kernel) (by decide +kernel) (fun _=>Z) (fun _=>Z) ?_ (fun _=>Z) (fun _=>Z) ?_
 ·refine oT (.agg [(eOP a5)]) (fun _ _=>z7 3 Z Z Z Z) ?_;refine oT (.nod [.sl 1 (List.map eNP x4.1),.sl 3 (List.map z8 x4.2.1),dN x4.2.2]) (fun _ _=>zh fn148 (wb hx4) Z) ?_;refine oT ((dN a3)) (fun _ _=>z7 1 Z Z Z Z) ?_;refine zi true ?_ (fun D hA env3 x j hj hD=>match j,hj,hD with|0,_,_=>Z|1,_,_=>Z|2,_,_=>Z|3,hj,_=>absurd Z hj|_+4,_,_=>Z) ?_
  ·intro D env3 hA;exact zK [(3,false)] ⟨hA.me,trivial⟩ (Want.plain Z) (OpR.call [7] fn147 (wt hx5) Z Z Z (fun _=>Z)) (fun x=>Z) (fun x=>Z)
  exact trivial
 intro env3;show T X _ _ _;refine aS ?_;refine z6 (z7 1 Z Z Z Z) Z ?_;refine aA Z Z ?_;refine aN Z ?_;obtain⟨t6,ht6,h0⟩:=bS h0;refine T.cutN (fun S'=>∃ u7,t6=Ex.brk u7∧S'=⟨[],[.lp b0 .ready none [35,36] ve vd [(6,(dP b5)),(5,.nod [(eOP a0),dT a1,dN a2]),(3,.nod [dP b4])] 48,.var b1 [dN a3] 3,.var b2 [dN a4] 3,.var b3 [(eOP a5)] 25,.var b4 [.val v6] 264,.var b5 [dT a6] 4,.row v6 (lB a7) 1 5],62⟩) (fun _ _ g ⟨h,S',ds,g',r⟩=>⟨h,S',ds,Gst.trans g g',r⟩) ?_ ?_;rotate_left
 ·rintro _ ⟨u7,rfl,rfl⟩;obtain rfl:=osi h0;exact xg (ks:=[0,1,2,3,4,5,6]) (Gst.only [] Z) undef ResL.nil Z Z Z Z
 refine T.block ?_;obtain⟨n10,n15⟩:=zy ht6;refine T.loop (fun n S'=>∃ S'',Gst S' S''∧∃ y8:Value,∃ s9:Int × (List wFr),S''=⟨[(6,(dN s9.1)),(5,(dP (blk p2))),(2,(dP b2)),(0,.fn (.yield b0) [] [])],[.lp b0 .ready none [35,36] ve vd [(6,(dP b5)),(5,.nod [(eOP a0),dT a1,dN a2]),(3,.nod [dP b4])] 48,.var b1 [dN a3] 3,.var b2 [dN a4] 3,.var b3 [(eOP a5)] 25,.var b4 [.val v6] 264,.var b5 [dT a6] 4,.row v6 (lB a7) 1 5,.var (blk p2) [.val y8] 228,.row y8 (List.map yF s9.2) 3 234],62⟩∧wo (yk.l1 a0 a1 a2 a4 a6 a7) n s9=some t6) n10 ?_ ?_
 ·exact⟨_,Gst.only [0,2,5,6] Z,(vn (env3 3) 0),(a3,x5),Z,n15⟩
 rintro n10 _ ⟨_,g,y8,s9,rfl,i14⟩;refine T.ghost g ?_;obtain⟨m11,q12,rfl,q13,i14⟩:=zz i14;unfold yk.l1 at q13;refine T.seq ?_;refine aS ?_;refine aA Z Z ?_;refine z6 (z7 2 Z Z Z Z) Z ?_;refine aA Z Z ?_;refine aN Z ?_;rcases z9 q13 with ⟨c17,q13⟩|⟨c17,q13⟩;rotate_left
 ·refine ze Z (eF c17) ?_;refine T.exit ?_;obtain rfl:=osi q13;obtain rfl:_=_:=i14;exact⟨_,gP [] [0,1,2,3,4,5,6] Z Z Z,_,Z,Z⟩
 refine zf Z (eT c17) ?_;refine aK Z ?_;refine T.seq ?_;refine T.block ?_;refine T.seq ?_;refine aS ?_;obtain⟨x18,hx18,q13⟩:=bS q13;refine z6 (OpR.call [7,8] fn149 (yy hx18) Z Z Z (fun _=>Z)) Z ?_;refine aA Z Z ?_;refine aN Z ?_;refine T.seq ?_;obtain⟨x19,hx19,q13⟩:=bS q13;obtain⟨q20,hq20,q13⟩:=bS q13;rcases q20 with _|z21
 ·dsimp only at q13;exact (by cases q13)
 dsimp only at q13;obtain⟨x23,hx23,q13⟩:=bS q13;rw[xf hx23] at hq20;refine yr zV [.val (.pointer (some ⟨blk y8,x18.toNat*3,none⟩)),.val (.pointer (some ⟨blk y8,x18.toNat*3,none⟩)),.val (.pointer (some ⟨blk y8,x18.toNat*3+2,none⟩)),dN x19.fNext,.val (.pointer (some ⟨blk y8,x18.toNat*3,none⟩)),.val (.pointer (some ⟨blk y8,x18.toNat*3,none⟩)),.val (.pointer (some ⟨blk y8,x18.toNat*3,none⟩)),.nod [.sl 1 (List.map eNP x23.fKids),.sl 3 (List.map z8 x23.fItems),dN x23.fN],.nod [.sl 1 (List.map eNP x23.fKids),.sl 3 (List.map z8 x23.fItems),dN x23.fN],.nod [.sl 3 (List.map z8 x23.fItems),dN x23.fN],.sl 3 (List.map z8 x23.fItems),dN (x23.fItems.length:Int),dT (x19.fNext==(x23.fItems.length:Int))] [0,2,5,6,35] (by decide +kernel) Z ?_ Z ?_
 ·iterate 3 refine aB rfl rfl rfl ?_
  refine zw.yes (Want.plain Z) Z (yL (j:=x18) yF 8 hx19 Z Z Z Z) ?_;iterate 3 refine aB rfl rfl rfl ?_
  refine zw.yes (Want.plain Z) Z (zk (zH (j:=x18) yF 8 hx19 Z Z Z Z) (congrArg eOP (osi hq20))) ?_;iterate 3 refine aB rfl rfl rfl ?_
  refine zw.yes (Want.plain Z) Z (zk (OpR.pure Z) (xn (w9 _ _))) ?_;refine aB Z Z Z ?_;exact zw.nil
 show T X _ _ _;obtain⟨t25,ht25,q13⟩:=bS q13;refine zA (fun S'=>∃ y26:Value,S'=⟨[(6,(dN s9.1)),(5,(dP (blk p2))),(2,(dP b2)),(0,.fn (.yield b0) [] [])],[.lp b0 .ready none [35,36] ve vd [(6,(dP b5)),(5,.nod [(eOP a0),dT a1,dN a2]),(3,.nod [dP b4])] 48,.var b1 [dN a3] 3,.var b2 [dN a4] 3,.var b3 [(eOP a5)] 25,.var b4 [.val v6] 264,.var b5 [dT a6] 4,.row v6 (lB a7) 1 5,.var (blk p2) [.val y26] 228,.row y26 (List.map yF t25) 3 234],62⟩) (fun _ h=>h) ?_ ?_
 ·rcases z9 ht25 with ⟨c27,ht25⟩|⟨c27,ht25⟩;rotate_left
  ·refine ze Z (beq_eq_false_iff_ne.2 c27) ?_;refine T.skip ?_;obtain rfl:=osi ht25;exact⟨_,Gst.only [0,2,5,6] Z,y8,Z⟩
  refine zf Z (beq_iff_eq.2 c27) ?_;refine T.region ?_;obtain⟨x28,hx28,ht25⟩:=bS ht25;refine TL.op (OpR.call [7,8] fn150 (wa hx28) Z Z Z (fun _=>Z)) Z (fun w29=>?_);refine TL.nil ?_;obtain rfl:=osi ht25;exact⟨_,Gst.only [0,2,5,6] Z,(vn w29 0),Z⟩
 rintro _ ⟨y26,rfl⟩;show T X _ _ _;refine aS ?_;obtain⟨x30,hx30,q13⟩:=bS q13;refine z6 (OpR.call [7,8] fn149 (yy hx30) Z Z Z (fun _=>Z)) Z ?_;refine aA Z Z ?_;refine aN Z ?_;refine T.seq ?_;refine T.seq ?_;obtain⟨x31,hx31,q13⟩:=bS q13;obtain⟨q32,hq32,q13⟩:=bS q13;rcases q32 with _|z33
 ·dsimp only at q13;exact (by cases q13)
 dsimp only at q13;obtain⟨x35,hx35,q13⟩:=bS q13;rw[xf hx35] at hq32;obtain⟨x37,hx37,q13⟩:=bS q13;obtain⟨x38,hx38,q13⟩:=bS q13;rcases x38 with x38|x38
 ·dsimp only at q13;refine yr zV [.fn (.yield b0) [] [],dN s9.1,.val (.pointer (some ⟨blk y26,x30.toNat*3,none⟩)),.val (.pointer (some ⟨blk y26,x30.toNat*3,none⟩)),.val (.pointer (some ⟨blk y26,x30.toNat*3,none⟩)),.nod [.sl 1 (List.map eNP x35.fKids),.sl 3 (List.map z8 x35.fItems),dN x35.fN],.nod [.sl 1 (List.map eNP x35.fKids),.sl 3 (List.map z8 x35.fItems),dN x35.fN],.nod [.sl 3 (List.map z8 x35.fItems),dN x35.fN],.sl 3 (List.map z8 x35.fItems),.val (.pointer (some ⟨blk y26,x30.toNat*3,none⟩)),.val (.pointer (some ⟨blk y26,x30.toNat*3,none⟩)),.val (.pointer (some ⟨blk y26,x30.toNat*3+2,none⟩)),dN x31.fNext,.nod [.sl 5 (List.map zj x37.fCells),dN x37.fEnd,dT x37.fHidden],.agg [.sl 5 (List.map zj x37.fCells),dN x37.fEnd,dT x37.fHidden],dT true,dT false] [0,2,5,6,8,54] (by decide +kernel) Z ?_ Z ?_;rotate_left
  ·show T X _ _ _;refine ze Z Z ?_;refine aK Z ?_;refine T.region ?_;iterate 3 refine aA rfl rfl ?_
   refine z6 (yL (j:=x30) yF 8 hx31 Z Z Z Z) Z ?_;iterate 3 refine aA rfl rfl ?_
   refine zv (un (j:=x30) yF (⟨x31.fN,x31.fFirst,w64 (x31.fNext+1)⟩:wFr) 8 hx31 Z Z Z Z Z Z Z Z Z) ?_;refine aN Z ?_;refine T.region ?_;iterate 3 refine aA rfl rfl ?_
   refine TL.nil ?_;obtain rfl:=osi q13;exact⟨m11,Nat.lt_succ_self _,_,Gst.only [0,2,5,6] Z,y26,(w64 (s9.1+1),(t25.set x30.toNat (⟨x31.fN,x31.fFirst,w64 (x31.fNext+1)⟩:wFr))),Z,i14⟩
  iterate 5 refine aB rfl rfl rfl ?_
  refine zw.yes (Want.plain Z) Z (zk (zH (j:=x30) yF 8 hx31 Z Z Z Z) (congrArg eOP (osi hq32))) ?_;iterate 6 refine aB rfl rfl rfl ?_
  refine zw.yes (Want.plain Z) Z (yL (j:=x30) yF 8 hx31 Z Z Z Z) ?_;refine zw.yes (Want.plain Z) Z (zp z8 hx37 Z Z Z Z Z) ?_;refine aB Z Z Z ?_;refine zw.yes (Want.plain Z) Z (qr [0,4,5,6] Z (grid_Same_r0_cx1 hx38) Z Z Z (fun _=>Z)) ?_;refine aB Z Z Z ?_;exact zw.nil
 dsimp only at q13;refine yA zV (fun env36=>[.fn (.yield b0) [] [],dN s9.1,.val (.pointer (some ⟨blk y26,x30.toNat*3,none⟩)),.val (.pointer (some ⟨blk y26,x30.toNat*3,none⟩)),.val (.pointer (some ⟨blk y26,x30.toNat*3,none⟩)),.nod [.sl 1 (List.map eNP x35.fKids),.sl 3 (List.map z8 x35.fItems),dN x35.fN],.nod [.sl 1 (List.map eNP x35.fKids),.sl 3 (List.map z8 x35.fItems),dN x35.fN],.nod [.sl 3 (List.map z8 x35.fItems),dN x35.fN],.sl 3 (List.map z8 x35.fItems),.val (.pointer (some ⟨blk y26,x30.toNat*3,none⟩)),.val (.pointer (some ⟨blk y26,x30.toNat*3,none⟩)),.val (.pointer (some ⟨blk y26,x30.toNat*3+2,none⟩)),dN x31.fNext,.nod [.sl 5 (List.map zj x37.fCells),dN x37.fEnd,dT x37.fHidden],.agg [.sl 5 (List.map zj x37.fCells),dN x37.fEnd,dT x37.fHidden],dT false,dT true]) (fun D env36=>[(bif D 15 then .lp b0 .done (some (.ret)) [35,36] ve vd [(6,(dP b5)),(5,.nod [(eOP a0),dT a1,dN a2]),(3,.nod [dP b4])] 48 else .lp b0 .ready none [35,36] ve vd [(6,(dP b5)),(5,.nod [(eOP a0),dT a1,dN a2]),(3,.nod [dP b4])] 48),.var b1 [dN a3] 3,.var b2 [dN a4] 3,.var b3 [(eOP a5)] 25,.var b4 [.val v6] 264,(bif D 15 then .var b5 [dT x38] 4 else .var b5 [dT a6] 4),.row v6 (lB a7) 1 5,.var (blk p2) [.val y26] 228,.row y26 (List.map yF t25) 3 234]) [0,0,0,4,12,28,60,124,252,0,512,1536,3584,8188,16380,32767,65535] [0,2,5,6,8,54] _ (by decide +kernel) (by decide +kernel) (fun _=>Z) (fun _=>Z) ?_ (fun _=>Z) (fun _=>Z) ?_;rotate_left
 ·intro env36;show T X _ _ _;refine zf Z Z ?_;refine T.ret ?_;obtain rfl:=osi q13;obtain rfl:_=_:=i14;obtain rfl:=osi h0;exact rP [0,1,2,3,4,5,6] [] [0,1,2,3,4,5,6] Z Z Z undef ResL.nil Z Z Z Z
 iterate 5 refine aC ?_
 refine oT (.nod [.sl 1 (List.map eNP x35.fKids),.sl 3 (List.map z8 x35.fItems),dN x35.fN]) (fun _ _=>zk (zH (j:=x30) yF 8 hx31 Z Z Z Z) (congrArg eOP (osi hq32))) ?_;iterate 6 refine aC ?_
 refine oT ((dN x31.fNext)) (fun _ _=>yL (j:=x30) yF 8 hx31 Z Z Z Z) ?_;refine oT (.nod [.sl 5 (List.map zj x37.fCells),dN x37.fEnd,dT x37.fHidden]) (fun _ _=>zp z8 hx37 Z Z Z Z Z) ?_;refine aC ?_;refine zi true ?_ (fun _ _ _ _ _ _ _=>Z) ?_
 ·intro D env36 hA;exact zK [(15,false)] ⟨hA.me,trivial⟩ (Want.plain Z) (qr [0,4,5,6] Z (grid_Same_r0_cx2 hx38) Z Z Z (fun _=>Z)) (fun x=>Z) (fun x=>Z)
 refine aC ?_;exact trivial
theorem sK {a0:Option NP} {a1:Bool} {a2:Int} {a3:Int} {a4:Int} {a5:Option NP} {a6:Bool} {a7:List UInt8} {b0:Nat} {b1:Nat} {b2:Nat} {b3:Nat} {b4:Nat} {b5:Nat} {v6:Value} {res:Unit} (h0:yk a0 a1 a2 a3 a4 a5 a6 a7=some (Sum.inl res)):zo X 146 [.fn (.yield b0) [] [],dP b1,dP b2,dP b3] [.lp b0 .ready none [35,36] ve vd [(6,(dP b5)),(5,.nod [(eOP a0),dT a1,dN a2]),(3,.nod [dP b4])] 48,.var b1 [dN a3] 3,.var b2 [dN a4] 3,.var b3 [(eOP a5)] 25,.var b4 [.val v6] 264,.var b5 [dT a6] 4,.row v6 (lB a7) 1 5] (fun x=>.tup []) (fun x=>[.lp b0 .ready none [35,36] ve vd [(6,(dP b5)),(5,.nod [(eOP a0),dT a1,dN a2]),(3,.nod [dP b4])] 48,.var b1 [dN a3] 3,.var b2 [dN a4] 3,.var b3 [(eOP a5)] 25,.var b4 [.val v6] 264,.var b5 [dT a6] 4,.row v6 (lB a7) 1 5]):=uJ h0
theorem sJ {a0:Option NP} {a1:Bool} {a2:Int} {a3:Int} {a4:Int} {a5:Option NP} {a6:Bool} {a7:List UInt8} {b0:Nat} {b1:Nat} {b2:Nat} {b3:Nat} {b4:Nat} {b5:Nat} {v6:Value} {res:Bool} (h0:yk a0 a1 a2 a3 a4 a5 a6 a7=some (Sum.inr res)):zo X 146 [.fn (.yield b0) [] [],dP b1,dP b2,dP b3] [.lp b0 .ready none [35,36] ve vd [(6,(dP b5)),(5,.nod [(eOP a0),dT a1,dN a2]),(3,.nod [dP b4])] 48,.var b1 [dN a3] 3,.var b2 [dN a4] 3,.var b3 [(eOP a5)] 25,.var b4 [.val v6] 264,.var b5 [dT a6] 4,.row v6 (lB a7) 1 5] (fun x=>.tup []) (fun x=>[.lp b0 .done (some (.ret)) [35,36] ve vd [(6,(dP b5)),(5,.nod [(eOP a0),dT a1,dN a2]),(3,.nod [dP b4])] 48,.var b1 [dN a3] 3,.var b2 [dN a4] 3,.var b3 [(eOP a5)] 25,.var b4 [.val v6] 264,.var b5 [dT res] 4,.row v6 (lB a7) 1 5]):=uJ h0
noncomputable def qi (a0:grid_Grid) (a1:grid_Grid) (a2:List UInt8):Option Bool:=
 bnd (bnd (yK a0) fun x4=>
 bnd (yK a1) fun x5=>
 if x4=x5 then
 if (a0.fTail==a1.fTail)=true then
 some (!(a0.fEnd==a1.fEnd))
else
 some true
else
 some true:Option Bool) fun t2=>
 if t2=true then
 some false
else
 bnd (yK a0) fun x10=>
 bnd (xF a0.fRows 0 x10) fun x11=>
 bnd (yk a1.fRows.fRoot a1.fTail a1.fEnd x11.1 x11.2.1 x11.2.2 false a2) fun x13=>
 match x13 with
| .inl x13=>
 some true
| .inr x13=>
 some x13
theorem grid_Same_c {a0:grid_Grid} {a1:grid_Grid} {a2:List UInt8} {b0:Nat} {v1:Value} {res:Bool} (h0:qi a0 a1 a2=some res):zo X 28 [dP b0,.agg [(eOP a0.fRows.fRoot),dT a0.fTail,dN a0.fEnd],.agg [(eOP a1.fRows.fRoot),dT a1.fTail,dN a1.fEnd]] [.var b0 [.val v1] 264,.row v1 (lB a2) 1 5] (fun x=>(dT res)) (fun x=>[.var b0 [.val v1] 264,.row v1 (lB a2) 1 5]):=by
 unfold qi at h0;refine zb (X:=X) Z Tryz.func28 Z Z Tryz.ntmps28 Z Z ?_;refine aS ?_;refine z6 (zD Z Z) Z ?_;refine z6 (zD Z Z) Z ?_;refine z6 (zD Z Z) Z ?_;refine TL.op (OpR.alloc Z Z (fun _=>Z)) Z (fun p1=>?_);refine aN Z ?_;refine T.seq ?_;refine T.seq ?_;obtain⟨t2,ht2,h0⟩:=bS h0;refine zA (fun S'=>S'=⟨[(29,(dT t2)),(6,(dP (blk p1))),(5,.nod [(eOP a1.fRows.fRoot),dT a1.fTail,dN a1.fEnd]),(4,.nod [(eOP a0.fRows.fRoot),dT a0.fTail,dN a0.fEnd]),(3,.nod [dP b0])],[.var b0 [.val v1] 264,.row v1 (lB a2) 1 5,.var (blk p1) [dT false] 4],48⟩) (fun _ h=>h) ?_ ?_;rotate_left
 ·rintro _ rfl;show T X _ _ _;rcases z9 h0 with ⟨c8,h0⟩|⟨c8,h0⟩
  ·refine zf Z (c8) ?_;refine aS ?_;refine zv (OpR.store 2 Z Z Z Z Z Z Z Z) ?_;refine aN Z ?_;refine T.ret ?_;obtain rfl:=osi h0;exact rO [0,1] [6] Z undef (cV 2 Z Z Z Z ResL.nil) Z Z Z Z
  refine ze Z (eN c8) ?_;refine aK Z ?_;refine T.seq ?_;refine T.seq ?_;obtain⟨x10,hx10,h0⟩:=bS h0;obtain⟨x11,hx11,h0⟩:=bS h0;refine yA zV (fun env9=>[.nod [(eOP a0.fRows.fRoot),dT a0.fTail,dN a0.fEnd],.agg [(eOP a0.fRows.fRoot)],.agg [(eOP a0.fRows.fRoot),dT a0.fTail,dN a0.fEnd],dN x10,.fn (.func 146) [] [dP (blk (vn (env9 4) 0)),dP (blk (vn (env9 4) 1)),dP (blk (vn (env9 4) 2))]]) (fun D env9=>[.var b0 [.val v1] 264,.row v1 (lB a2) 1 5,.var (blk p1) [dT false] 4]++(bif D 4 then [.var (blk (vn (env9 4) 0)) [dN x11.1] 3] else [])++(bif D 4 then [.var (blk (vn (env9 4) 1)) [dN x11.2.1] 3] else [])++(bif D 4 then [.var (blk (vn (env9 4) 2)) [(eOP x11.2.2)] 25] else [])) [0,1,0,4,15] [3,5,6,34] _ (by decide +kernel) (by decide +kernel) (fun _=>Z) (fun _=>Z) ?_ (fun _=>Z) (fun _=>Z) ?_;rotate_left
  ·intro env9;show T X _ _ _;refine T.block ?_;obtain⟨x13,hx13,h0⟩:=bS h0;rcases x13 with x13|x13;rotate_left
   ·dsimp only at h0;refine T.rangeJ (A:=ve) (B:=vd) (.ret) [3,5,6] [3,4,5,0,2,1] (.inl Z) Z Z Z Z Z fn146 Z Z (fun l12=>(sJ hx13)) (fun _=>Z) (fun w15=>?_);refine T.ret ?_;obtain rfl:=osi h0;exact rP [0,1] [6] [0,1,2] Z Z Z undef (cV 2 Z Z Z Z ResL.nil) Z Z Z Z
   dsimp only at h0;refine T.rangeN (A:=ve) (B:=vd) [3,5,6] [3,4,5,0,2,1] (.inl Z) Z Z Z Z Z fn146 Z Z (fun l12=>(sK hx13)) (fun _=>Z) (fun w14=>?_);show T X _ _ _;refine aS ?_;refine zv (OpR.store 2 Z Z Z Z Z Z Z Z) ?_;refine aN Z ?_;refine T.ret ?_;obtain rfl:=osi h0;exact rP [0,1] [6] [0,1,2] Z Z Z undef (cV 2 Z Z Z Z ResL.nil) Z Z Z Z
  iterate 3 refine aC ?_
  refine oT ((dN x10)) (fun _ _=>zh fn22 (yQ hx10) Z) ?_;refine zi true ?_ (fun D hA env9 x j hj hD=>match j,hj,hD with|0,_,_=>Z|1,_,_=>Z|2,_,_=>Z|3,_,_=>Z|4,hj,_=>absurd Z hj|_+5,_,_=>Z) ?_
  ·intro D env9 hA;exact zK [(4,false)] ⟨hA.me,trivial⟩ (Want.plain Z) (OpR.call [] fn80 (vx hx11) Z Z Z (fun _=>Z)) (fun x=>Z) (fun x=>Z)
  exact trivial
 obtain⟨x4,hx4,ht2⟩:=bS ht2;obtain⟨x5,hx5,ht2⟩:=bS ht2;rcases z9 ht2 with ⟨c6,ht2⟩|⟨c6,ht2⟩;rotate_left
 ·refine yr zV [.agg [(eOP a0.fRows.fRoot),dT a0.fTail,dN a0.fEnd],dN x4,.agg [(eOP a1.fRows.fRoot),dT a1.fTail,dN a1.fEnd],dN x5,dT (!(x4==x5)),dT (!(x4==x5)),.tup [],.tup [],.tup [],.tup [],.tup [],dT true,dT true,.tup [],.tup [],.tup [],.tup [],.tup [],dT true] [3,4,5,6,29] (by decide +kernel) Z ?_ Z ?_;rotate_left
  ·obtain rfl:=osi ht2;exact⟨_,Gst.only [3,4,5,6,29] Z,Z⟩
  refine aB Z Z Z ?_;refine zw.yes (Want.plain Z) Z (zh fn22 (yQ hx4) Z) ?_;refine aB Z Z Z ?_;refine zw.yes (Want.plain Z) Z (zh fn22 (yQ hx5) Z) ?_;iterate 2 refine aB rfl rfl rfl ?_
  refine zw.no (Want.bool rfl rfl rfl rfl (by rw[(zR (beq_eq_false_iff_ne.2 c6))]; rfl)) rfl ?_;refine zw.no (Want.bool rfl rfl rfl rfl (by rw[(zR (beq_eq_false_iff_ne.2 c6))]; rfl)) rfl ?_;refine zw.no (Want.bool rfl rfl rfl rfl (by rw[(zR (beq_eq_false_iff_ne.2 c6))]; rfl)) rfl ?_;refine zw.no (Want.bool rfl rfl rfl rfl (by rw[(zR (beq_eq_false_iff_ne.2 c6))]; rfl)) rfl ?_;refine zw.no (Want.bool rfl rfl rfl rfl (by rw[(zR (beq_eq_false_iff_ne.2 c6))]; rfl)) rfl ?_;refine zw.yes (Want.plain Z) Z (zt Z (zR (beq_eq_false_iff_ne.2 c6)) Z) ?_;refine aB Z Z Z ?_;refine zw.no (Want.bool Z Z Z Z Z) Z ?_;refine zw.no (Want.bool Z Z Z Z Z) Z ?_;refine zw.no (Want.bool Z Z Z Z Z) Z ?_;refine zw.no (Want.bool Z Z Z Z Z) Z ?_;refine zw.no (Want.bool Z Z Z Z Z) Z ?_;refine zw.yes (Want.plain Z) Z (zt Z Z Z) ?_;exact zw.nil
 rcases z9 ht2 with ⟨c7,ht2⟩|⟨c7,ht2⟩;rotate_left
 ·refine yr zV [.agg [(eOP a0.fRows.fRoot),dT a0.fTail,dN a0.fEnd],dN x4,.agg [(eOP a1.fRows.fRoot),dT a1.fTail,dN a1.fEnd],dN x5,dT (!(x4==x5)),dT (!(x4==x5)),.nod [dT a0.fTail,dN a0.fEnd],dT a0.fTail,.nod [dT a1.fTail,dN a1.fEnd],dT a1.fTail,dT (!(a0.fTail==a1.fTail)),dT (!(a0.fTail==a1.fTail)),dT (!(a0.fTail==a1.fTail)),.tup [],.tup [],.tup [],.tup [],.tup [],dT true] [3,4,5,6,29] (by decide +kernel) Z ?_ Z ?_;rotate_left
  ·obtain rfl:=osi ht2;exact⟨_,Gst.only [3,4,5,6,29] Z,Z⟩
  refine aB Z Z Z ?_;refine zw.yes (Want.plain Z) Z (zh fn22 (yQ hx4) Z) ?_;refine aB Z Z Z ?_;refine zw.yes (Want.plain Z) Z (zh fn22 (yQ hx5) Z) ?_;iterate 2 refine aB rfl rfl rfl ?_
  refine zw.yes (Want.bool rfl rfl rfl rfl (by rw[(zQ (beq_iff_eq.2 c6))]; rfl)) rfl (OpR.pure rfl) ?_;refine zw.yes (Want.bool rfl rfl rfl rfl (by rw[(zQ (beq_iff_eq.2 c6))]; rfl)) rfl (OpR.pure rfl) ?_;refine zw.yes (Want.bool rfl rfl rfl rfl (by rw[(zQ (beq_iff_eq.2 c6))]; rfl)) rfl (OpR.pure rfl) ?_;refine zw.yes (Want.bool rfl rfl rfl rfl (by rw[(zQ (beq_iff_eq.2 c6))]; rfl)) rfl (OpR.pure rfl) ?_;refine zw.yes (Want.bool rfl rfl rfl rfl (by rw[(zQ (beq_iff_eq.2 c6))]; rfl)) rfl (tp rfl rfl rfl rfl) ?_;refine zw.yes (Want.plain Z) Z (zx Z (zQ (beq_iff_eq.2 c6)) Z) ?_;refine aB Z Z Z ?_;refine zw.no (Want.bool rfl rfl rfl rfl (by rw[(zR (eN c7))]; rfl)) rfl ?_;refine zw.no (Want.bool rfl rfl rfl rfl (by rw[(zR (eN c7))]; rfl)) rfl ?_;refine zw.no (Want.bool rfl rfl rfl rfl (by rw[(zR (eN c7))]; rfl)) rfl ?_;refine zw.no (Want.bool rfl rfl rfl rfl (by rw[(zR (eN c7))]; rfl)) rfl ?_;refine zw.no (Want.bool rfl rfl rfl rfl (by rw[(zR (eN c7))]; rfl)) rfl ?_;refine zw.yes (Want.plain Z) Z (zt Z (zR (eN c7)) Z) ?_;exact zw.nil
 refine yr zV [.agg [(eOP a0.fRows.fRoot),dT a0.fTail,dN a0.fEnd],dN x4,.agg [(eOP a1.fRows.fRoot),dT a1.fTail,dN a1.fEnd],dN x5,dT (!(x4==x5)),dT (!(x4==x5)),.nod [dT a0.fTail,dN a0.fEnd],dT a0.fTail,.nod [dT a1.fTail,dN a1.fEnd],dT a1.fTail,dT (!(a0.fTail==a1.fTail)),dT (!(a0.fTail==a1.fTail)),dT (!(a0.fTail==a1.fTail)),.nod [dN a0.fEnd],dN a0.fEnd,.nod [dN a1.fEnd],dN a1.fEnd,dT (!(a0.fEnd==a1.fEnd)),dT (!(a0.fEnd==a1.fEnd))] [3,4,5,6,29] (by decide +kernel) Z ?_ Z ?_;rotate_left
 ·obtain rfl:=osi ht2;exact⟨_,Gst.only [3,4,5,6,29] Z,Z⟩
 refine aB Z Z Z ?_;refine zw.yes (Want.plain Z) Z (zh fn22 (yQ hx4) Z) ?_;refine aB Z Z Z ?_;refine zw.yes (Want.plain Z) Z (zh fn22 (yQ hx5) Z) ?_;iterate 2 refine aB rfl rfl rfl ?_
 refine zw.yes (Want.bool rfl rfl rfl rfl (by rw[(zQ (beq_iff_eq.2 c6))]; rfl)) rfl (OpR.pure rfl) ?_;refine zw.yes (Want.bool rfl rfl rfl rfl (by rw[(zQ (beq_iff_eq.2 c6))]; rfl)) rfl (OpR.pure rfl) ?_;refine zw.yes (Want.bool rfl rfl rfl rfl (by rw[(zQ (beq_iff_eq.2 c6))]; rfl)) rfl (OpR.pure rfl) ?_;refine zw.yes (Want.bool rfl rfl rfl rfl (by rw[(zQ (beq_iff_eq.2 c6))]; rfl)) rfl (OpR.pure rfl) ?_;refine zw.yes (Want.bool rfl rfl rfl rfl (by rw[(zQ (beq_iff_eq.2 c6))]; rfl)) rfl (tp rfl rfl rfl rfl) ?_;refine zw.yes (Want.plain Z) Z (zx Z (zQ (beq_iff_eq.2 c6)) Z) ?_;refine aB Z Z Z ?_;refine zw.yes (Want.bool rfl rfl rfl rfl (by rw[(zQ (c7))]; rfl)) rfl (OpR.pure rfl) ?_;refine zw.yes (Want.bool rfl rfl rfl rfl (by rw[(zQ (c7))]; rfl)) rfl (OpR.pure rfl) ?_;refine zw.yes (Want.bool rfl rfl rfl rfl (by rw[(zQ (c7))]; rfl)) rfl (OpR.pure rfl) ?_;refine zw.yes (Want.bool rfl rfl rfl rfl (by rw[(zQ (c7))]; rfl)) rfl (OpR.pure rfl) ?_;refine zw.yes (Want.bool rfl rfl rfl rfl (by rw[(zQ (c7))]; rfl)) rfl (OpR.pure rfl) ?_;refine zw.yes (Want.plain Z) Z (zx Z (zQ (c7)) Z) ?_;exact zw.nil
noncomputable def wO.l1 (a0:List ref07_Cell) (a1:List ref07_Cell) (s4:Int):Option (Lp Int (Ex Unit Bool)):=
 if s4<(a0.length:Int) then
 bnd (idx a0 s4) fun x14=>
 bnd (idx a1 s4) fun x15=>
 if x14=x15 then
 some (Lp.next (w64 (s4+1)))
else
 some (Lp.done (Ex.ret false))
else
 some (Lp.done (Ex.brk ()))
noncomputable def wO (a0:List ref07_Cell) (a1:List ref07_Cell):Option Bool:=
 if (a0.length:Int)=(a1.length:Int) then
 bnd (loop (wO.l1 a0 a1) 0:Option (Ex Unit Bool)) fun t2=>match t2 with
| .brk u3=>
 some true
| .ret u3=>some u3
else
 some false
theorem ref07_Same_c {a0:List ref07_Cell} {a1:List ref07_Cell} {res:Bool} (h0:wO a0 a1=some res):zo X 30 [.sl 3 (List.map zB a0),.sl 3 (List.map zB a1)] [] (fun x=>(dT res)) (fun x=>[]):=by
 unfold wO at h0;refine zb (X:=X) Z Tryz.func30 Z Z Tryz.ntmps30 Z Z ?_;refine aS ?_;refine aA Z Z ?_;refine aN Z ?_;refine T.seq ?_;refine aS ?_;refine aA Z Z ?_;refine z6 (zk (OpR.pure Z) (xn (w9 _ _))) Z ?_;refine aA Z Z ?_;refine z6 (zk (OpR.pure Z) (xn (w9 _ _))) Z ?_;refine aA Z Z ?_;refine aN Z ?_;rcases z9 h0 with ⟨c1,h0⟩|⟨c1,h0⟩;rotate_left
 ·refine zf Z (zR (beq_eq_false_iff_ne.2 c1)) ?_;refine aS ?_;refine aA Z Z ?_;refine aN Z ?_;refine T.ret ?_;obtain rfl:=osi h0;exact rO [] [4] Z undef (cT Z ResL.nil) Z Z Z Z
 refine ze Z (zQ (beq_iff_eq.2 c1)) ?_;refine aK Z ?_;refine T.seq ?_;refine aS ?_;refine aA Z Z ?_;refine z6 (zk (OpR.pure Z) (xn (w9 _ _))) Z ?_;refine aA Z Z ?_;refine aN Z ?_;obtain⟨t2,ht2,h0⟩:=bS h0;refine zA (fun S'=>∃ u3,t2=Ex.brk u3∧S'=⟨[(4,(dT false))],[],26⟩) (fun _ h=>h) ?_ ?_;rotate_left
 ·rintro _ ⟨u3,rfl,rfl⟩;show T X _ _ _;refine aS ?_;refine aA Z Z ?_;refine aN Z ?_;refine T.ret ?_;obtain rfl:=osi h0;exact rO [] [4] Z undef (cT Z ResL.nil) Z Z Z Z
 refine T.block ?_;obtain⟨n5,n10⟩:=zy ht2;refine T.loop (fun n S'=>∃ S'',Gst S' S''∧∃ s4:Int,S''=⟨[(13,(dN s4)),(12,(dN (a0.length:Int))),(4,(dT false)),(1,.sl 3 (List.map zB a1)),(0,.sl 3 (List.map zB a0))],[],26⟩∧wo (wO.l1 a0 a1) n s4=some t2) n5 ?_ ?_
 ·exact⟨_,Gst.only [0,1,4,12,13] Z,0,Z,n10⟩
 rintro n5 _ ⟨_,g,s4,rfl,i9⟩;refine T.ghost g ?_;obtain⟨m6,q7,rfl,q8,i9⟩:=zz i9;unfold wO.l1 at q8;refine aS ?_;refine aA Z Z ?_;refine aN Z ?_;refine T.seq ?_;rcases z9 q8 with ⟨c12,q8⟩|⟨c12,q8⟩;rotate_left
 ·refine ze Z (eF c12) ?_;refine T.exit ?_;obtain rfl:=osi q8;obtain rfl:_=_:=i9;exact⟨_,Gst.only [4] Z,_,Z,Z⟩
 refine zf Z (eT c12) ?_;refine aK Z ?_;refine T.seq ?_;refine T.block ?_;refine aS ?_;iterate 2 refine aA rfl rfl ?_
 refine aN Z ?_;refine T.seq ?_;obtain⟨x14,hx14,q8⟩:=bS q8;obtain⟨x15,hx15,q8⟩:=bS q8;refine yr zV [.sl 3 (List.map zB a0),dN s4,.nod [.val (.string (bs x14.fS)),.val (.string (bs x14.fRaw)),dT x14.fKept],.agg [.val (.string (bs x14.fS)),.val (.string (bs x14.fRaw)),dT x14.fKept],.sl 3 (List.map zB a1),dN s4,.nod [.val (.string (bs x15.fS)),.val (.string (bs x15.fRaw)),dT x15.fKept],.agg [.val (.string (bs x15.fS)),.val (.string (bs x15.fRaw)),dT x15.fKept],dT (!(x14==x15))] [0,1,4,12,13,24] (by decide +kernel) Z ?_ Z ?_
 ·iterate 2 refine aB rfl rfl rfl ?_
  refine zw.yes (Want.plain Z) Z (zp zB hx14 Z Z Z Z Z) ?_;iterate 3 refine aB rfl rfl rfl ?_
  refine zw.yes (Want.plain Z) Z (zp zB hx15 Z Z Z Z Z) ?_;refine aB Z Z Z ?_;refine zw.yes (Want.plain Z) Z (zk (OpR.neStruct Z Z Z Z Z (by kernel_rfl) (by kernel_rfl)) (boolE (congrArg (fun b=>!b) (beq_ref07_Cell x14 x15)))) ?_;exact zw.nil
 show T X _ _ _;rcases z9 q8 with ⟨c16,q8⟩|⟨c16,q8⟩
 ·refine ze Z (zQ (beq_iff_eq.2 c16)) ?_;refine aK Z ?_;refine T.region ?_;iterate 2 refine aA rfl rfl ?_
  refine TL.nil ?_;obtain rfl:=osi q8;exact⟨m6,Nat.lt_succ_self _,_,Gst.only [0,1,4,12,13] Z,w64 (s4+1),Z,i9⟩
 refine zf Z (zR (beq_eq_false_iff_ne.2 c16)) ?_;refine aS ?_;refine aA Z Z ?_;refine aN Z ?_;refine T.ret ?_;obtain rfl:=osi q8;obtain rfl:_=_:=i9;obtain rfl:=osi h0;exact rO [] [4] Z undef (cT Z ResL.nil) Z Z Z Z
noncomputable def tY (a0:ref08_Row) (a1:ref08_Row):Option Bool:=
 bnd (if a0.fEnd=a1.fEnd then
 if (a0.fHidden==a1.fHidden)=true then
 bnd (wO a0.fCells a1.fCells) fun x4=>
 some x4
else
 some false
else
 some false:Option Bool) fun t1=>
 some t1
theorem ref08_Same_c {a0:ref08_Row} {a1:ref08_Row} {res:Bool} (h0:tY a0 a1=some res):zo X 65 [.agg [.sl 3 (List.map zB a0.fCells),dN a0.fEnd,dT a0.fHidden],.agg [.sl 3 (List.map zB a1.fCells),dN a1.fEnd,dT a1.fHidden]] [] (fun x=>(dT res)) (fun x=>[]):=by
 unfold tY at h0;refine zb (X:=X) Z Tryz.func65 Z Z Tryz.ntmps65 Z Z ?_;refine aS ?_;refine z6 (zD Z Z) Z ?_;refine z6 (zD Z Z) Z ?_;refine aA Z Z ?_;refine aN Z ?_;refine T.seq ?_;obtain⟨t1,ht1,h0⟩:=bS h0;refine zA (fun S'=>S'=⟨[(4,(dT t1))],[],24⟩) (fun _ h=>h) ?_ ?_;rotate_left
 ·rintro _ rfl;show T X _ _ _;refine T.ret ?_;obtain rfl:=osi h0;exact rO [] [4] Z undef (cT Z ResL.nil) Z Z Z Z
 refine T.region ?_;iterate 6 refine aA rfl rfl ?_
 rcases z9 ht1 with ⟨c2,ht1⟩|⟨c2,ht1⟩;rotate_left
 ·refine TL.off Z Z Z Z (beq_eq_false_iff_ne.2 c2) Z Z ?_;refine TL.off Z Z Z Z (beq_eq_false_iff_ne.2 c2) Z Z ?_;refine TL.off Z Z Z Z (beq_eq_false_iff_ne.2 c2) Z Z ?_;refine TL.off Z Z Z Z (beq_eq_false_iff_ne.2 c2) Z Z ?_;refine TL.off Z Z Z Z (beq_eq_false_iff_ne.2 c2) Z Z ?_;refine z6 (zx Z (beq_eq_false_iff_ne.2 c2) Z) Z ?_;refine aA Z Z ?_;refine TL.off Z Z Z Z Z Z Z ?_;refine TL.off Z Z Z Z Z Z Z ?_;refine TL.off Z Z Z Z Z Z Z ?_;refine TL.off Z Z Z Z Z Z Z ?_;refine TL.off Z Z Z Z Z Z Z ?_;refine z6 (zx Z Z Z) Z ?_;refine aA Z Z ?_;refine TL.nil ?_;obtain rfl:=osi ht1;exact⟨_,Gst.only [4] Z,Z⟩
 refine TL.on Z Z Z Z (beq_iff_eq.2 c2) ?_;refine aA Z Z ?_;refine TL.on Z Z Z Z (beq_iff_eq.2 c2) ?_;refine aA Z Z ?_;refine TL.on Z Z Z Z (beq_iff_eq.2 c2) ?_;refine aA Z Z ?_;refine TL.on Z Z Z Z (beq_iff_eq.2 c2) ?_;refine aA Z Z ?_;refine TL.on Z Z Z Z (beq_iff_eq.2 c2) ?_;refine z6 (OpR.eqBool Z Z Z Z) Z ?_;refine z6 (zt Z (beq_iff_eq.2 c2) Z) Z ?_;refine aA Z Z ?_;rcases z9 ht1 with ⟨c3,ht1⟩|⟨c3,ht1⟩;rotate_left
 ·refine TL.off Z Z Z Z (eN c3) Z Z ?_;refine TL.off Z Z Z Z (eN c3) Z Z ?_;refine TL.off Z Z Z Z (eN c3) Z Z ?_;refine TL.off Z Z Z Z (eN c3) Z Z ?_;refine TL.off Z Z Z Z (eN c3) Z Z ?_;refine z6 (zx Z (eN c3) Z) Z ?_;refine aA Z Z ?_;refine TL.nil ?_;obtain rfl:=osi ht1;exact⟨_,Gst.only [4] Z,Z⟩
 refine TL.on Z Z Z Z (c3) ?_;refine aA Z Z ?_;refine TL.on Z Z Z Z (c3) ?_;refine aA Z Z ?_;refine TL.on Z Z Z Z (c3) ?_;refine aA Z Z ?_;refine TL.on Z Z Z Z (c3) ?_;refine aA Z Z ?_;refine TL.on Z Z Z Z (c3) ?_;obtain⟨x4,hx4,ht1⟩:=bS ht1;refine z6 (zh fn30 (ref07_Same_c hx4) Z) Z ?_;refine z6 (zt Z (c3) Z) Z ?_;refine aA Z Z ?_;refine TL.nil ?_;obtain rfl:=osi ht1;exact⟨_,Gst.only [4] Z,Z⟩
noncomputable def tX (a0:ref08_Row) (a1:Int):Option (List UInt8):=
 bnd (if a1<0 then
 some true
else
 some (decide (a1≥(a0.fCells.length:Int))):Option Bool) fun t1=>
 if t1=true then
 some []
else
 bnd (idx a0.fCells a1) fun x4=>
 some x4.fS
theorem ref16_text_c {a0:ref08_Row} {a1:Int} {res:(List UInt8)} (h0:tX a0 a1=some res):zo X 110 [.agg [.sl 3 (List.map zB a0.fCells),dN a0.fEnd,dT a0.fHidden],dN a1] [] (fun x=>.val (.string (bs res))) (fun x=>[]):=by
 unfold tX at h0;refine zb (X:=X) Z Tryz.func110 Z Z Tryz.ntmps110 Z Z ?_;refine aS ?_;refine z6 (zD Z Z) Z ?_;refine aA Z Z ?_;refine aN Z ?_;refine T.seq ?_;refine T.seq ?_;obtain⟨t1,ht1,h0⟩:=bS h0;refine zA (fun S'=>S'=⟨[(13,(dT t1)),(4,.val (.string (bs []))),(2,.nod [.sl 3 (List.map zB a0.fCells),dN a0.fEnd,dT a0.fHidden]),(1,(dN a1))],[],20⟩) (fun _ h=>h) ?_ ?_;rotate_left
 ·rintro _ rfl;show T X _ _ _;rcases z9 h0 with ⟨c3,h0⟩|⟨c3,h0⟩
  ·refine zf Z (c3) ?_;refine aS ?_;refine aA Z Z ?_;refine aN Z ?_;refine T.ret ?_;obtain rfl:=osi h0;exact rO [] [4] Z undef (cT Z ResL.nil) Z Z Z Z
  refine ze Z (eN c3) ?_;refine aK Z ?_;refine aS ?_;iterate 3 refine aA rfl rfl ?_
  obtain⟨x4,hx4,h0⟩:=bS h0;refine z6 (zp zB hx4 Z Z Z Z Z) Z ?_;iterate 3 refine aA rfl rfl ?_
  refine aN Z ?_;refine T.ret ?_;obtain rfl:=osi h0;exact rO [] [4] Z undef (cT Z ResL.nil) Z Z Z Z
 refine T.region ?_;iterate 3 refine aA rfl rfl ?_
 rcases z9 ht1 with ⟨c2,ht1⟩|⟨c2,ht1⟩
 ·refine TL.off Z Z Z Z (eT c2) Z Z ?_;refine TL.off Z Z Z Z (eT c2) Z Z ?_;refine TL.off Z Z Z Z (eT c2) Z Z ?_;refine TL.off Z Z Z Z (eT c2) Z Z ?_;refine TL.off Z Z Z Z (eT c2) Z Z ?_;refine z6 (zt Z (eT c2) Z) Z ?_;refine TL.nil ?_;obtain rfl:=osi ht1;exact⟨_,Gst.only [1,2,4,13] Z,Z⟩
 refine TL.on Z Z Z Z (eF c2) ?_;refine aA Z Z ?_;refine TL.on Z Z Z Z (eF c2) ?_;refine aA Z Z ?_;refine TL.on Z Z Z Z (eF c2) ?_;refine aA Z Z ?_;refine TL.on Z Z Z Z (eF c2) ?_;refine z6 (zk (OpR.pure Z) (xn (w9 _ _))) Z ?_;refine TL.on Z Z Z Z (eF c2) ?_;refine aA Z Z ?_;refine z6 (zx Z (eF c2) Z) Z ?_;refine TL.nil ?_;obtain rfl:=osi ht1;exact⟨_,Gst.only [1,2,4,13] Z,Z⟩
noncomputable def sq (a0:UInt8):Option Bool:=
 bnd (if (a0.toNat:Int)≥48 then
 some (decide ((a0.toNat:Int)≤57))
else
 some false:Option Bool) fun t1=>
 some t1
theorem ref02_Digit_c {a0:UInt8} {res:Bool} (h0:sq a0=some res):zo X 217 [.val (.int .u8 (a0.toNat:Int))] [] (fun x=>(dT res)) (fun x=>[]):=by
 unfold sq at h0;refine zb (X:=X) Z Tryz.func217 Z Z Tryz.ntmps217 Z Z ?_;refine aS ?_;refine aA Z Z ?_;refine aN Z ?_;refine T.seq ?_;obtain⟨t1,ht1,h0⟩:=bS h0;refine zA (fun S'=>S'=⟨[(2,(dT t1))],[],9⟩) (fun _ h=>h) ?_ ?_;rotate_left
 ·rintro _ rfl;show T X _ _ _;refine T.ret ?_;obtain rfl:=osi h0;exact rO [] [2] Z undef (cT Z ResL.nil) Z Z Z Z
 refine T.region ?_;iterate 3 refine aA rfl rfl ?_
 rcases z9 ht1 with ⟨c2,ht1⟩|⟨c2,ht1⟩;rotate_left
 ·refine TL.off Z Z Z Z (eF c2) Z Z ?_;refine TL.off Z Z Z Z (eF c2) Z Z ?_;refine z6 (zx Z (eF c2) Z) Z ?_;refine aA Z Z ?_;refine TL.nil ?_;obtain rfl:=osi ht1;exact⟨_,Gst.only [2] Z,Z⟩
 refine TL.on Z Z Z Z (eT c2) ?_;refine aA Z Z ?_;refine TL.on Z Z Z Z (eT c2) ?_;refine aA Z Z ?_;refine z6 (zt Z (eT c2) Z) Z ?_;refine aA Z Z ?_;refine TL.nil ?_;obtain rfl:=osi ht1;exact⟨_,Gst.only [2] Z,Z⟩
noncomputable def wQ.l1 (s2:(List UInt8)):Option (Lp (List UInt8) (List UInt8)):=
 bnd (if (s2.length:Int)>1 then
 bnd (idx s2 0) fun x12=>
 some ((x12.toNat:Int)==48)
else
 some false:Option Bool) fun t10=>
 if t10=true then
 bnd (cut s2 1 (s2.length:Int)) fun x14=>
 some (Lp.next x14)
else
 some (Lp.done s2)
noncomputable def wQ (a0:List UInt8):Option (List UInt8):=
 bnd (loop wQ.l1 a0:Option (List UInt8)) fun t1=>
 some t1
theorem ref02_bare_c {a0:List UInt8} {res:(List UInt8)} (h0:wQ a0=some res):zo X 218 [.val (.string (bs a0))] [] (fun x=>.val (.string (bs res))) (fun x=>[]):=by
 unfold wQ at h0;refine zb (X:=X) Z Tryz.func218 Z Z Tryz.ntmps218 Z Z ?_;refine aS ?_;refine aA Z Z ?_;refine aN Z ?_;refine T.seq ?_;obtain⟨t1,ht1,h0⟩:=bS h0;refine zA (fun S'=>S'=⟨[(2,.val (.string (bs []))),(0,.val (.string (bs t1)))],[],14⟩) (fun _ h=>h) ?_ ?_;rotate_left
 ·rintro _ rfl;show T X _ _ _;refine aS ?_;iterate 2 refine aA rfl rfl ?_
  refine aN Z ?_;refine T.ret ?_;obtain rfl:=osi h0;exact rO [] [2] Z undef (cT Z ResL.nil) Z Z Z Z
 refine T.block ?_;obtain⟨n3,n8⟩:=zy ht1;refine T.loop (fun n S'=>∃ S'',Gst S' S''∧∃ s2:(List UInt8),S''=⟨[(2,.val (.string (bs []))),(0,.val (.string (bs s2)))],[],14⟩∧wo wQ.l1 n s2=some t1) n3 ?_ ?_
 ·exact⟨_,Gst.only [0,2] Z,a0,Z,n8⟩
 rintro n3 _ ⟨_,g,s2,rfl,i7⟩;refine T.ghost g ?_;obtain⟨m4,q5,rfl,q6,i7⟩:=zz i7;unfold wQ.l1 at q6;refine T.seq ?_;refine T.seq ?_;obtain⟨t10,ht10,q6⟩:=bS q6;refine zA (fun S'=>S'=⟨[(10,(dT t10)),(2,.val (.string (bs []))),(0,.val (.string (bs s2)))],[],14⟩) (fun _ h=>h) ?_ ?_;rotate_left
 ·rintro _ rfl;show T X _ _ _;rcases z9 q6 with ⟨c13,q6⟩|⟨c13,q6⟩;rotate_left
  ·refine ze Z (eN c13) ?_;refine T.exit ?_;obtain rfl:=osi q6;obtain rfl:_=_:=i7;exact⟨_,Gst.only [0,2] Z,Z⟩
  refine zf Z (c13) ?_;refine aK Z ?_;refine T.block ?_;refine T.region ?_;refine aA Z Z ?_;obtain⟨x14,hx14,q6⟩:=bS q6;refine z6 (rl hx14 Z Z Z (BdM.some Z) BdM.none) Z ?_;refine aA Z Z ?_;refine TL.nil ?_;obtain rfl:=osi q6;exact⟨m4,Nat.lt_succ_self _,_,Gst.only [0,2] Z,x14,Z,i7⟩
 refine T.region ?_;refine aA Z Z ?_;refine z6 (zk (OpR.pure Z) (xn (lenS _))) Z ?_;iterate 2 refine aA rfl rfl ?_
 rcases z9 ht10 with ⟨c11,ht10⟩|⟨c11,ht10⟩;rotate_left
 ·refine TL.off Z Z Z Z (eF c11) Z Z ?_;refine TL.off Z Z Z Z (eF c11) Z Z ?_;refine TL.off Z Z Z Z (eF c11) Z Z ?_;refine z6 (zx Z (eF c11) Z) Z ?_;refine TL.nil ?_;obtain rfl:=osi ht10;exact⟨_,Gst.only [0,2,10] Z,Z⟩
 refine TL.on Z Z Z Z (eT c11) ?_;refine aA Z Z ?_;refine TL.on Z Z Z Z (eT c11) ?_;obtain⟨x12,hx12,ht10⟩:=bS ht10;refine z6 (wh hx12 Z Z Z Z) Z ?_;refine TL.on Z Z Z Z (eT c11) ?_;refine aA Z Z ?_;refine z6 (zt Z (eT c11) Z) Z ?_;refine TL.nil ?_;obtain rfl:=osi ht10;exact⟨_,Gst.only [0,2,10] Z,Z⟩
noncomputable def tZ (a0:List UInt8) (a1:List UInt8):Option Bool:=
 bnd (if (a0.length:Int)<(a1.length:Int) then
 some true
else
 if (a0.length:Int)=(a1.length:Int) then
 some (Op.bytesLess a0 a1)
else
 some false:Option Bool) fun t1=>
 some t1
theorem ref02_less_c {a0:List UInt8} {a1:List UInt8} {res:Bool} (h0:tZ a0 a1=some res):zo X 219 [.val (.string (bs a0)),.val (.string (bs a1))] [] (fun x=>(dT res)) (fun x=>[]):=by
 unfold tZ at h0;refine zb (X:=X) Z Tryz.func219 Z Z Tryz.ntmps219 Z Z ?_;refine aS ?_;refine aA Z Z ?_;refine aN Z ?_;refine T.seq ?_;obtain⟨t1,ht1,h0⟩:=bS h0;refine zA (fun S'=>S'=⟨[(4,(dT t1))],[],22⟩) (fun _ h=>h) ?_ ?_;rotate_left
 ·rintro _ rfl;show T X _ _ _;refine T.ret ?_;obtain rfl:=osi h0;exact rO [] [4] Z undef (cT Z ResL.nil) Z Z Z Z
 refine T.region ?_;refine aA Z Z ?_;refine z6 (zk (OpR.pure Z) (xn (lenS _))) Z ?_;refine aA Z Z ?_;refine z6 (zk (OpR.pure Z) (xn (lenS _))) Z ?_;iterate 2 refine aA rfl rfl ?_
 rcases z9 ht1 with ⟨c2,ht1⟩|⟨c2,ht1⟩
 ·refine TL.off Z Z Z Z (eT c2) Z Z ?_;refine TL.off Z Z Z Z (eT c2) Z Z ?_;refine TL.off Z Z Z Z (eT c2) Z Z ?_;refine TL.off Z Z Z Z (eT c2) Z Z ?_;refine TL.off Z Z Z Z (eT c2) Z Z ?_;refine TL.off Z Z Z Z (eT c2) Z Z ?_;refine sQ Z Z Z Z Z Z ?_;refine sQ Z Z Z Z Z Z ?_;refine sQ Z Z Z Z Z Z ?_;refine TL.off Z Z Z Z (eT c2) Z Z ?_;refine z6 (zt Z (eT c2) Z) Z ?_;refine aA Z Z ?_;refine TL.nil ?_;obtain rfl:=osi ht1;exact⟨_,Gst.only [4] Z,Z⟩
 refine TL.on Z Z Z Z (eF c2) ?_;refine aA Z Z ?_;refine TL.on Z Z Z Z (eF c2) ?_;refine z6 (zk (OpR.pure Z) (xn (lenS _))) Z ?_;refine TL.on Z Z Z Z (eF c2) ?_;refine aA Z Z ?_;refine TL.on Z Z Z Z (eF c2) ?_;refine z6 (zk (OpR.pure Z) (xn (lenS _))) Z ?_;refine TL.on Z Z Z Z (eF c2) ?_;refine aA Z Z ?_;refine TL.on Z Z Z Z (eF c2) ?_;refine aA Z Z ?_;rcases z9 ht1 with ⟨c3,ht1⟩|⟨c3,ht1⟩;rotate_left
 ·refine TL.off Z Z Z Z (beq_eq_false_iff_ne.2 c3) Z Z ?_;refine TL.off Z Z Z Z (beq_eq_false_iff_ne.2 c3) Z Z ?_;refine TL.off Z Z Z Z (beq_eq_false_iff_ne.2 c3) Z Z ?_;refine TL.on Z Z Z Z (eF c2) ?_;refine z6 (zx Z (beq_eq_false_iff_ne.2 c3) Z) Z ?_;refine z6 (zx Z (eF c2) Z) Z ?_;refine aA Z Z ?_;refine TL.nil ?_;obtain rfl:=osi ht1;exact⟨_,Gst.only [4] Z,Z⟩
 refine TL.on Z Z Z Z (beq_iff_eq.2 c3) ?_;refine aA Z Z ?_;refine TL.on Z Z Z Z (beq_iff_eq.2 c3) ?_;refine aA Z Z ?_;refine TL.on Z Z Z Z (beq_iff_eq.2 c3) ?_;refine z6 (zk (OpR.pure Z) (boolE (strLt _ _))) Z ?_;refine TL.on Z Z Z Z (eF c2) ?_;refine z6 (zt Z (beq_iff_eq.2 c3) Z) Z ?_;refine z6 (zx Z (eF c2) Z) Z ?_;refine aA Z Z ?_;refine TL.nil ?_;obtain rfl:=osi ht1;exact⟨_,Gst.only [4] Z,Z⟩
noncomputable def yC.l1 (t5:(List UInt8) × Bool) (s12:Int):Option (Lp Int (Ex Unit (Int × Bool))):=
 if s12<(t5.1.length:Int) then
 bnd (idx t5.1 s12) fun x21=>
 bnd (sq x21) fun x22=>
 if x22=true then
 some (Lp.next (w64 (s12+1)))
else
 some (Lp.done (Ex.ret (0,false)))
else
 some (Lp.done (Ex.brk ()))
noncomputable def yC.l2 (t5:(List UInt8) × Bool) (x24:(List UInt8)) (s30:Int × Int):Option (Lp (Int × Int) Int):=
 if s30.2<(x24.length:Int) then
 bnd (if t5.2=true then
 bnd (idx x24 s30.2) fun x41=>
 some (w64 ((w64 (s30.1*10))-(w64 ((x41.toNat:Int)-48))))
else
 bnd (idx x24 s30.2) fun x42=>
 some (w64 ((w64 ((w64 (s30.1*10))+(x42.toNat:Int)))-48)):Option Int) fun t39=>
 some (Lp.next (t39,w64 (s30.2+1)))
else
 some (Lp.done s30.1)
noncomputable def yC (a0:List UInt8):Option (Int × Bool):=
 bnd (if (a0.length:Int)>0 then
 bnd (idx a0 0) fun x3=>
 if (x3.toNat:Int)=43 then
 some true
else
 some ((x3.toNat:Int)==45)
else
 some false:Option Bool) fun t1=>
 bnd (if t1=true then
 bnd (idx a0 0) fun x7=>
 bnd (cut a0 1 (a0.length:Int)) fun x8=>
 some (x8,((x7.toNat:Int)==45))
else
 some (a0,false):Option ((List UInt8) × Bool)) fun t5=>
 if t5.1=[] then
 some (0,false)
else
 bnd (loop (yC.l1 t5) 0:Option (Ex Unit (Int × Bool))) fun t10=>match t10 with
| .brk u11=>
 bnd (wQ t5.1) fun x24=>
 bnd (if t5.2=true then
 some [57,50,50,51,51,55,50,48,51,54,56,53,52,55,55,53,56,48,56]
else
 some [57,50,50,51,51,55,50,48,51,54,56,53,52,55,55,53,56,48,55]:Option (List UInt8)) fun t25=>
 bnd (tZ t25 x24) fun x27=>
 if x27=true then
 some (0,false)
else
 bnd (loop (yC.l2 t5 x24) (0,0):Option Int) fun t29=>
 some (t29,true)
| .ret u11=>some u11
theorem pF {a0:List UInt8} {res:Int × Bool} (h0:yC a0=some res):zo X 174 [.val (.string (bs a0))] [] (fun x=>.tup [dN res.1,dT res.2]) (fun x=>[]):=by
 unfold yC at h0;refine zb (X:=X) Z Tryz.func174 Z Z Tryz.ntmps174 Z Z ?_;refine aS ?_;iterate 2 refine aA rfl rfl ?_
 refine aN Z ?_;refine aS ?_;refine aA Z Z ?_;refine aN Z ?_;refine T.seq ?_;refine T.seq ?_;obtain⟨t1,ht1,h0⟩:=bS h0;refine zA (fun S'=>S'=⟨[(21,(dT t1)),(4,(dT false)),(3,(dT false)),(2,(dN 0)),(0,.val (.string (bs a0)))],[],70⟩) (fun _ h=>h) ?_ ?_
 ·refine T.region ?_;refine aA Z Z ?_;refine z6 (zk (OpR.pure Z) (xn (lenS _))) Z ?_;iterate 2 refine aA rfl rfl ?_
  rcases z9 ht1 with ⟨c2,ht1⟩|⟨c2,ht1⟩;rotate_left
  ·refine TL.off Z Z Z Z (eF c2) Z Z ?_;refine TL.off Z Z Z Z (eF c2) Z Z ?_;refine TL.off Z Z Z Z (eF c2) Z Z ?_;refine TL.off Z Z Z Z (eF c2) Z Z ?_;refine sQ Z Z Z Z Z Z ?_;refine sQ Z Z Z Z Z Z ?_;refine sQ Z Z Z Z Z Z ?_;refine TL.off Z Z Z Z (eF c2) Z Z ?_;refine z6 (zx Z (eF c2) Z) Z ?_;refine TL.nil ?_;obtain rfl:=osi ht1;exact⟨_,Gst.only [0,2,3,4,21] Z,Z⟩
  refine TL.on Z Z Z Z (eT c2) ?_;refine aA Z Z ?_;refine TL.on Z Z Z Z (eT c2) ?_;obtain⟨x3,hx3,ht1⟩:=bS ht1;refine z6 (wh hx3 Z Z Z Z) Z ?_;refine TL.on Z Z Z Z (eT c2) ?_;refine aA Z Z ?_;refine TL.on Z Z Z Z (eT c2) ?_;refine aA Z Z ?_;rcases z9 ht1 with ⟨c4,ht1⟩|⟨c4,ht1⟩
  ·refine TL.off Z Z Z Z (beq_iff_eq.2 c4) Z Z ?_;refine TL.off Z Z Z Z (beq_iff_eq.2 c4) Z Z ?_;refine TL.off Z Z Z Z (beq_iff_eq.2 c4) Z Z ?_;refine TL.on Z Z Z Z (eT c2) ?_;refine z6 (zt Z (beq_iff_eq.2 c4) Z) Z ?_;refine z6 (zt Z (eT c2) Z) Z ?_;refine TL.nil ?_;obtain rfl:=osi ht1;exact⟨_,Gst.only [0,2,3,4,21] Z,Z⟩
  refine TL.on Z Z Z Z (beq_eq_false_iff_ne.2 c4) ?_;refine aA Z Z ?_;refine TL.on Z Z Z Z (beq_eq_false_iff_ne.2 c4) ?_;refine z6 (wh hx3 Z Z Z Z) Z ?_;refine TL.on Z Z Z Z (beq_eq_false_iff_ne.2 c4) ?_;refine aA Z Z ?_;refine TL.on Z Z Z Z (eT c2) ?_;refine z6 (zx Z (beq_eq_false_iff_ne.2 c4) Z) Z ?_;refine z6 (zt Z (eT c2) Z) Z ?_;refine TL.nil ?_;obtain rfl:=osi ht1;exact⟨_,Gst.only [0,2,3,4,21] Z,Z⟩
 rintro _ rfl;show T X _ _ _;obtain⟨t5,ht5,h0⟩:=bS h0;refine zA (fun S'=>S'=⟨[(4,(dT t5.2)),(3,(dT false)),(2,(dN 0)),(0,.val (.string (bs t5.1)))],[],70⟩) (fun _ h=>h) ?_ ?_
 ·rcases z9 ht5 with ⟨c6,ht5⟩|⟨c6,ht5⟩;rotate_left
  ·refine ze Z (eN c6) ?_;refine T.skip ?_;obtain rfl:=osi ht5;exact⟨_,Gst.only [0,2,3,4] Z,Z⟩
  refine zf Z (c6) ?_;refine aS ?_;refine aA Z Z ?_;obtain⟨x7,hx7,ht5⟩:=bS ht5;refine z6 (wh hx7 Z Z Z Z) Z ?_;iterate 2 refine aA rfl rfl ?_
  refine aN Z ?_;refine T.region ?_;refine aA Z Z ?_;obtain⟨x8,hx8,ht5⟩:=bS ht5;refine z6 (rl hx8 Z Z Z (BdM.some Z) BdM.none) Z ?_;refine aA Z Z ?_;refine TL.nil ?_;obtain rfl:=osi ht5;exact⟨_,Gst.only [0,2,3,4] Z,Z⟩
 rintro _ rfl;show T X _ _ _;refine T.seq ?_;refine aS ?_;refine aA Z Z ?_;refine z6 (zk (OpR.pure Z) (boolE (strEq _ _))) Z ?_;refine aN Z ?_;rcases z9 h0 with ⟨c9,h0⟩|⟨c9,h0⟩
 ·refine zf Z (beq_iff_eq.2 c9) ?_;refine aS ?_;iterate 2 refine aA rfl rfl ?_
  refine aN Z ?_;refine T.ret ?_;obtain rfl:=osi h0;exact rO [] [2,3] Z undef (cT Z (cT Z ResL.nil)) Z Z Z Z
 refine ze Z (beq_eq_false_iff_ne.2 c9) ?_;refine aK Z ?_;refine T.seq ?_;refine aS ?_;refine aA Z Z ?_;refine aN Z ?_;obtain⟨t10,ht10,h0⟩:=bS h0;refine zA (fun S'=>∃ u11,t10=Ex.brk u11∧S'=⟨[(4,(dT t5.2)),(3,(dT false)),(2,(dN 0)),(0,.val (.string (bs t5.1)))],[],70⟩) (fun _ h=>h) ?_ ?_
 ·refine T.block ?_;obtain⟨n13,n18⟩:=zy ht10;refine T.loop (fun n S'=>∃ S'',Gst S' S''∧∃ s12:Int,S''=⟨[(5,(dN s12)),(4,(dT t5.2)),(3,(dT false)),(2,(dN 0)),(0,.val (.string (bs t5.1)))],[],70⟩∧wo (yC.l1 t5) n s12=some t10) n13 ?_ ?_
  ·exact⟨_,Gst.only [0,2,3,4,5] Z,0,Z,n18⟩
  rintro n13 _ ⟨_,g,s12,rfl,i17⟩;refine T.ghost g ?_;obtain⟨m14,q15,rfl,q16,i17⟩:=zz i17;unfold yC.l1 at q16;refine T.seq ?_;refine aS ?_;iterate 2 refine aA rfl rfl ?_
  refine z6 (zk (OpR.pure Z) (xn (lenS _))) Z ?_;refine aA Z Z ?_;refine aN Z ?_;rcases z9 q16 with ⟨c20,q16⟩|⟨c20,q16⟩;rotate_left
  ·refine ze Z (eF c20) ?_;refine T.exit ?_;obtain rfl:=osi q16;obtain rfl:_=_:=i17;exact⟨_,Gst.only [0,2,3,4] Z,_,Z,Z⟩
  refine zf Z (eT c20) ?_;refine aK Z ?_;refine T.seq ?_;refine T.block ?_;refine aS ?_;iterate 2 refine aA rfl rfl ?_
  obtain⟨x21,hx21,q16⟩:=bS q16;refine z6 (wh hx21 Z Z Z Z) Z ?_;obtain⟨x22,hx22,q16⟩:=bS q16;refine z6 (zh fn217 (ref02_Digit_c hx22) Z) Z ?_;refine aA Z Z ?_;refine aN Z ?_;rcases z9 q16 with ⟨c23,q16⟩|⟨c23,q16⟩
  ·refine ze Z (zQ (c23)) ?_;refine aK Z ?_;refine T.region ?_;iterate 3 refine aA rfl rfl ?_
   refine TL.nil ?_;obtain rfl:=osi q16;exact⟨m14,Nat.lt_succ_self _,_,Gst.only [0,2,3,4,5] Z,w64 (s12+1),Z,i17⟩
  refine zf Z (zR (eN c23)) ?_;refine aS ?_;iterate 2 refine aA rfl rfl ?_
  refine aN Z ?_;refine T.ret ?_;obtain rfl:=osi q16;obtain rfl:_=_:=i17;obtain rfl:=osi h0;exact rO [] [2,3] Z undef (cT Z (cT Z ResL.nil)) Z Z Z Z
 rintro _ ⟨u11,rfl,rfl⟩;show T X _ _ _;refine aS ?_;refine aA Z Z ?_;obtain⟨x24,hx24,h0⟩:=bS h0;refine z6 (zh fn218 (ref02_bare_c hx24) Z) Z ?_;refine aA Z Z ?_;refine aN Z ?_;refine aS ?_;refine aA Z Z ?_;refine aN Z ?_;refine T.seq ?_;refine aS ?_;refine aA Z Z ?_;refine aN Z ?_;obtain⟨t25,ht25,h0⟩:=bS h0;refine zA (fun S'=>S'=⟨[(6,.val (.string (bs t25))),(4,(dT t5.2)),(3,(dT false)),(2,(dN 0)),(0,.val (.string (bs x24)))],[],70⟩) (fun _ h=>h) ?_ ?_
 ·rcases z9 ht25 with ⟨c26,ht25⟩|⟨c26,ht25⟩;rotate_left
  ·refine ze Z (eN c26) ?_;refine T.skip ?_;obtain rfl:=osi ht25;exact⟨_,Gst.only [0,2,3,4,6] Z,Z⟩
  refine zf Z (c26) ?_;refine T.region ?_;refine aA Z Z ?_;refine TL.nil ?_;obtain rfl:=osi ht25;exact⟨_,Gst.only [0,2,3,4,6] Z,Z⟩
 rintro _ rfl;show T X _ _ _;refine T.seq ?_;refine aS ?_;iterate 2 refine aA rfl rfl ?_
 obtain⟨x27,hx27,h0⟩:=bS h0;refine z6 (zh fn219 (ref02_less_c hx27) Z) Z ?_;refine aN Z ?_;rcases z9 h0 with ⟨c28,h0⟩|⟨c28,h0⟩
 ·refine zf Z (c28) ?_;refine aS ?_;iterate 2 refine aA rfl rfl ?_
  refine aN Z ?_;refine T.ret ?_;obtain rfl:=osi h0;exact rO [] [2,3] Z undef (cT Z (cT Z ResL.nil)) Z Z Z Z
 refine ze Z (eN c28) ?_;refine aK Z ?_;refine aS ?_;refine aA Z Z ?_;refine aN Z ?_;refine T.seq ?_;refine aS ?_;refine aA Z Z ?_;refine aN Z ?_;obtain⟨t29,ht29,h0⟩:=bS h0;refine zA (fun S'=>S'=⟨[(7,(dN t29)),(3,(dT false)),(2,(dN 0))],[],70⟩) (fun _ h=>h) ?_ ?_;rotate_left
 ·rintro _ rfl;show T X _ _ _;refine aS ?_;iterate 3 refine aA rfl rfl ?_
  refine aN Z ?_;refine T.ret ?_;obtain rfl:=osi h0;exact rO [] [2,3] Z undef (cT Z (cT Z ResL.nil)) Z Z Z Z
 refine T.block ?_;obtain⟨n31,n36⟩:=zy ht29;refine T.loop (fun n S'=>∃ S'',Gst S' S''∧∃ s30:Int × Int,S''=⟨[(8,(dN s30.2)),(7,(dN s30.1)),(4,(dT t5.2)),(3,(dT false)),(2,(dN 0)),(0,.val (.string (bs x24)))],[],70⟩∧wo (yC.l2 t5 x24) n s30=some t29) n31 ?_ ?_
 ·exact⟨_,Gst.only [0,2,3,4,7,8] Z,(0,0),Z,n36⟩
 rintro n31 _ ⟨_,g,s30,rfl,i35⟩;refine T.ghost g ?_;obtain⟨m32,q33,rfl,q34,i35⟩:=zz i35;unfold yC.l2 at q34;refine T.seq ?_;refine aS ?_;iterate 2 refine aA rfl rfl ?_
 refine z6 (zk (OpR.pure Z) (xn (lenS _))) Z ?_;refine aA Z Z ?_;refine aN Z ?_;rcases z9 q34 with ⟨c38,q34⟩|⟨c38,q34⟩;rotate_left
 ·refine ze Z (eF c38) ?_;refine T.exit ?_;obtain rfl:=osi q34;obtain rfl:_=_:=i35;exact⟨_,Gst.only [2,3,7] Z,Z⟩
 refine zf Z (eT c38) ?_;refine aK Z ?_;refine T.seq ?_;refine T.block ?_;refine aS ?_;refine aA Z Z ?_;refine aN Z ?_;obtain⟨t39,ht39,q34⟩:=bS q34;refine zA (fun S'=>S'=⟨[(8,(dN s30.2)),(7,(dN t39)),(4,(dT t5.2)),(3,(dT false)),(2,(dN 0)),(0,.val (.string (bs x24)))],[],70⟩) (fun _ h=>h) ?_ ?_;rotate_left
 ·rintro _ rfl;show T X _ _ _;refine T.region ?_;iterate 3 refine aA rfl rfl ?_
  refine TL.nil ?_;obtain rfl:=osi q34;exact⟨m32,Nat.lt_succ_self _,_,Gst.only [0,2,3,4,7,8] Z,(t39,w64 (s30.2+1)),Z,i35⟩
 rcases z9 ht39 with ⟨c40,ht39⟩|⟨c40,ht39⟩
 ·refine zf Z (c40) ?_;refine T.region ?_;iterate 4 refine aA rfl rfl ?_
  obtain⟨x41,hx41,ht39⟩:=bS ht39;refine z6 (wh hx41 Z Z Z Z) Z ?_;refine z6 (zk (OpR.pure Z) (xn (w64_u8 _))) Z ?_;iterate 3 refine aA rfl rfl ?_
  refine TL.nil ?_;obtain rfl:=osi ht39;exact⟨_,Gst.only [0,2,3,4,7,8] Z,Z⟩
 refine ze Z (eN c40) ?_;refine T.region ?_;iterate 4 refine aA rfl rfl ?_
 obtain⟨x42,hx42,ht39⟩:=bS ht39;refine z6 (wh hx42 Z Z Z Z) Z ?_;refine z6 (zk (OpR.pure Z) (xn (w64_u8 _))) Z ?_;iterate 3 refine aA rfl rfl ?_
 refine TL.nil ?_;obtain rfl:=osi ht39;exact⟨_,Gst.only [0,2,3,4,7,8] Z,Z⟩
noncomputable def uV (a0:List UInt8) (a1:List UInt8):Option Int:=
 bnd (yC a0) fun x1=>
 bnd (yC a1) fun x2=>
 bnd (if x1.2=true then
 some x2.2
else
 some false:Option Bool) fun t3=>
 bnd (if t3=true then
 some (decide (x1.1<x2.1),decide (x2.1<x1.1))
else
 some ((Op.bytesLess a0 a1),(Op.bytesLess a1 a0)):Option (Bool × Bool)) fun t5=>
 bnd (if (x1.2==x2.2)=true then
 some (t5.1,t5.2)
else
 some (x1.2,x2.2):Option (Bool × Bool)) fun t7=>
 if t7.1=true then
 some (-1)
else
 if t7.2=true then
 some 1
else
 some 0
theorem ref02_Compare_c {a0:List UInt8} {a1:List UInt8} {res:Int} (h0:uV a0 a1=some res):zo X 109 [.val (.string (bs a0)),.val (.string (bs a1))] [] (fun x=>(dN res)) (fun x=>[]):=by
 unfold uV at h0;refine zb (X:=X) Z Tryz.func109 Z Z Tryz.ntmps109 Z Z ?_;refine aS ?_;refine aA Z Z ?_;refine aN Z ?_;refine aS ?_;refine aA Z Z ?_;obtain⟨x1,hx1,h0⟩:=bS h0;refine z6 (zh fn174 (pF hx1) Z) Z ?_;iterate 5 refine aA rfl rfl ?_
 refine aN Z ?_;refine aS ?_;refine aA Z Z ?_;obtain⟨x2,hx2,h0⟩:=bS h0;refine z6 (zh fn174 (pF hx2) Z) Z ?_;iterate 5 refine aA rfl rfl ?_
 refine aN Z ?_;refine aS ?_;iterate 2 refine aA rfl rfl ?_
 refine z6 (zk (OpR.pure Z) (boolE (strLt _ _))) Z ?_;iterate 2 refine aA rfl rfl ?_
 refine z6 (zk (OpR.pure Z) (boolE (strLt _ _))) Z ?_;iterate 2 refine aA rfl rfl ?_
 refine aN Z ?_;refine T.seq ?_;refine T.seq ?_;obtain⟨t3,ht3,h0⟩:=bS h0;refine zA (fun S'=>S'=⟨[(30,(dT t3)),(10,(dT (Op.bytesLess a1 a0))),(9,(dT (Op.bytesLess a0 a1))),(8,(dT x2.2)),(7,(dN x2.1)),(6,(dT x1.2)),(5,(dN x1.1)),(4,(dN 0))],[],44⟩) (fun _ h=>h) ?_ ?_
 ·refine T.region ?_;iterate 2 refine aA rfl rfl ?_
  rcases z9 ht3 with ⟨c4,ht3⟩|⟨c4,ht3⟩
  ·refine TL.on Z Z Z Z (c4) ?_;refine aA Z Z ?_;refine z6 (zt Z (c4) Z) Z ?_;refine TL.nil ?_;obtain rfl:=osi ht3;exact⟨_,Gst.only [4,5,6,7,8,9,10,30] Z,Z⟩
  refine TL.off Z Z Z Z (eN c4) Z Z ?_;refine z6 (zx Z (eN c4) Z) Z ?_;refine TL.nil ?_;obtain rfl:=osi ht3;exact⟨_,Gst.only [4,5,6,7,8,9,10,30] Z,Z⟩
 rintro _ rfl;show T X _ _ _;obtain⟨t5,ht5,h0⟩:=bS h0;refine zA (fun S'=>S'=⟨[(10,(dT t5.2)),(9,(dT t5.1)),(8,(dT x2.2)),(6,(dT x1.2)),(4,(dN 0))],[],44⟩) (fun _ h=>h) ?_ ?_
 ·rcases z9 ht5 with ⟨c6,ht5⟩|⟨c6,ht5⟩;rotate_left
  ·refine ze Z (eN c6) ?_;refine T.skip ?_;obtain rfl:=osi ht5;exact⟨_,Gst.only [4,6,8,9,10] Z,Z⟩
  refine zf Z (c6) ?_;refine T.region ?_;iterate 8 refine aA rfl rfl ?_
  refine TL.nil ?_;obtain rfl:=osi ht5;exact⟨_,Gst.only [4,6,8,9,10] Z,Z⟩
 rintro _ rfl;show T X _ _ _;refine T.seq ?_;refine aS ?_;iterate 2 refine aA rfl rfl ?_
 refine z6 (tp Z Z Z Z) Z ?_;refine aN Z ?_;obtain⟨t7,ht7,h0⟩:=bS h0;refine zA (fun S'=>S'=⟨[(10,(dT t7.2)),(9,(dT t7.1)),(4,(dN 0))],[],44⟩) (fun _ h=>h) ?_ ?_
 ·rcases z9 ht7 with ⟨c8,ht7⟩|⟨c8,ht7⟩
  ·refine ze Z (zQ (c8)) ?_;refine T.skip ?_;obtain rfl:=osi ht7;exact⟨_,Gst.only [4,9,10] Z,Z⟩
  refine zf Z (zR (eN c8)) ?_;refine T.region ?_;iterate 4 refine aA rfl rfl ?_
  refine TL.nil ?_;obtain rfl:=osi ht7;exact⟨_,Gst.only [4,9,10] Z,Z⟩
 rintro _ rfl;show T X _ _ _;refine T.seq ?_;refine aS ?_;refine aA Z Z ?_;refine aN Z ?_;rcases z9 h0 with ⟨c9,h0⟩|⟨c9,h0⟩
 ·refine zf Z (c9) ?_;refine aS ?_;refine aA Z Z ?_;refine aN Z ?_;refine T.ret ?_;obtain rfl:=osi h0;exact rO [] [4] Z undef (cT Z ResL.nil) Z Z Z Z
 refine ze Z (eN c9) ?_;refine aK Z ?_;refine T.seq ?_;refine aS ?_;refine aA Z Z ?_;refine aN Z ?_;rcases z9 h0 with ⟨c10,h0⟩|⟨c10,h0⟩
 ·refine zf Z (c10) ?_;refine aS ?_;refine aA Z Z ?_;refine aN Z ?_;refine T.ret ?_;obtain rfl:=osi h0;exact rO [] [4] Z undef (cT Z ResL.nil) Z Z Z Z
 refine ze Z (eN c10) ?_;refine aK Z ?_;refine aS ?_;refine aA Z Z ?_;refine aN Z ?_;refine T.ret ?_;obtain rfl:=osi h0;exact rO [] [4] Z undef (cT Z ResL.nil) Z Z Z Z
noncomputable def xw.l1 (a0:ref08_Row) (a1:ref08_Row) (a2:List ref16_By) (s3:Int):Option (Lp Int (Ex Unit Int)):=
 if s3<(a2.length:Int) then
 bnd (idx a2 s3) fun x12=>
 bnd (tX a0 x12.fCol) fun x15=>
 bnd (tX a1 x12.fCol) fun x16=>
 bnd (uV x15 x16) fun x17=>
 bnd (if x12.fDown=true then
 some (w64 (0-x17))
else
 some x17:Option Int) fun t18=>
 if t18=0 then
 some (Lp.next (w64 (s3+1)))
else
 some (Lp.done (Ex.ret t18))
else
 some (Lp.done (Ex.brk ()))
noncomputable def xw (a0:ref08_Row) (a1:ref08_Row) (a2:List ref16_By):Option Int:=
 bnd (loop (xw.l1 a0 a1 a2) 0:Option (Ex Unit Int)) fun t1=>match t1 with
| .brk u2=>
 some 0
| .ret u2=>some u2
theorem qv {a0:ref08_Row} {a1:ref08_Row} {a2:List ref16_By} {res:Int} (h0:xw a0 a1 a2=some res):zo X 66 [.agg [.sl 3 (List.map zB a0.fCells),dN a0.fEnd,dT a0.fHidden],.agg [.sl 3 (List.map zB a1.fCells),dN a1.fEnd,dT a1.fHidden],.sl 2 (List.map yv a2)] [] (fun x=>(dN res)) (fun x=>[]):=by
 unfold xw at h0;refine zb (X:=X) Z Tryz.func66 Z Z Tryz.ntmps66 Z Z ?_;refine aS ?_;refine z6 (zD Z Z) Z ?_;refine z6 (zD Z Z) Z ?_;refine aA Z Z ?_;refine aN Z ?_;refine T.seq ?_;refine aS ?_;refine aA Z Z ?_;refine z6 (zk (OpR.pure Z) (xn (w9 _ _))) Z ?_;refine aA Z Z ?_;refine aN Z ?_;obtain⟨t1,ht1,h0⟩:=bS h0;refine zA (fun S'=>∃ u2,t1=Ex.brk u2∧S'=⟨[(6,(dN 0))],[],33⟩) (fun _ h=>h) ?_ ?_;rotate_left
 ·rintro _ ⟨u2,rfl,rfl⟩;show T X _ _ _;refine aS ?_;refine aA Z Z ?_;refine aN Z ?_;refine T.ret ?_;obtain rfl:=osi h0;exact rO [] [6] Z undef (cT Z ResL.nil) Z Z Z Z
 refine T.block ?_;obtain⟨n4,n9⟩:=zy ht1;refine T.loop (fun n S'=>∃ S'',Gst S' S''∧∃ s3:Int,S''=⟨[(12,(dN s3)),(11,(dN (a2.length:Int))),(10,.sl 2 (List.map yv a2)),(6,(dN 0)),(4,.nod [.sl 3 (List.map zB a1.fCells),dN a1.fEnd,dT a1.fHidden]),(3,.nod [.sl 3 (List.map zB a0.fCells),dN a0.fEnd,dT a0.fHidden])],[],33⟩∧wo (xw.l1 a0 a1 a2) n s3=some t1) n4 ?_ ?_
 ·exact⟨_,Gst.only [3,4,6,10,11,12] Z,0,Z,n9⟩
 rintro n4 _ ⟨_,g,s3,rfl,i8⟩;refine T.ghost g ?_;obtain⟨m5,q6,rfl,q7,i8⟩:=zz i8;unfold xw.l1 at q7;refine aS ?_;refine aA Z Z ?_;refine aN Z ?_;refine T.seq ?_;rcases z9 q7 with ⟨c11,q7⟩|⟨c11,q7⟩;rotate_left
 ·refine ze Z (eF c11) ?_;refine T.exit ?_;obtain rfl:=osi q7;obtain rfl:_=_:=i8;exact⟨_,Gst.only [6] Z,_,Z,Z⟩
 refine zf Z (eT c11) ?_;refine aK Z ?_;refine T.seq ?_;refine T.block ?_;refine aS ?_;obtain⟨x12,hx12,q7⟩:=bS q7;refine z6 (zp yv hx12 Z Z Z Z Z) Z ?_;refine aA Z Z ?_;refine TL.op (OpR.alloc Z Z (fun _=>Z)) Z (fun p13=>?_);refine zv (OpR.store 0 Z Z Z Z Z Z Z Z) ?_;refine aN Z ?_;refine T.seq ?_;obtain⟨x15,hx15,q7⟩:=bS q7;obtain⟨x16,hx16,q7⟩:=bS q7;obtain⟨x17,hx17,q7⟩:=bS q7;refine yr zV [.agg [.sl 3 (List.map zB a0.fCells),dN a0.fEnd,dT a0.fHidden],dP (blk p13),dN x12.fCol,.val (.string (bs x15)),.agg [.sl 3 (List.map zB a1.fCells),dN a1.fEnd,dT a1.fHidden],dP (blk p13),dN x12.fCol,.val (.string (bs x16)),dN x17,dN x17] [3,4,6,8,9,10,11,12] (by decide +kernel) Z ?_ Z ?_
 ·iterate 2 refine aB rfl rfl rfl ?_
  refine zw.yes (Want.plain Z) Z (z7 0 Z Z Z Z) ?_;refine zw.yes (Want.plain Z) Z (zh fn110 (ref16_text_c hx15) Z) ?_;iterate 2 refine aB rfl rfl rfl ?_
  refine zw.yes (Want.plain Z) Z (z7 0 Z Z Z Z) ?_;refine zw.yes (Want.plain Z) Z (zh fn110 (ref16_text_c hx16) Z) ?_;refine zw.yes (Want.plain Z) Z (zh fn109 (ref02_Compare_c hx17) Z) ?_;refine aB Z Z Z ?_;exact zw.nil
 show T X _ _ _;refine T.seq ?_;refine aS ?_;refine aA Z Z ?_;refine z6 (z7 0 Z Z Z Z) Z ?_;refine aN Z ?_;obtain⟨t18,ht18,q7⟩:=bS q7;refine zA (fun S'=>S'=⟨[(12,(dN s3)),(11,(dN (a2.length:Int))),(10,.sl 2 (List.map yv a2)),(9,(dN t18)),(6,(dN 0)),(4,.nod [.sl 3 (List.map zB a1.fCells),dN a1.fEnd,dT a1.fHidden]),(3,.nod [.sl 3 (List.map zB a0.fCells),dN a0.fEnd,dT a0.fHidden])],[],33⟩) (fun _ h=>h) ?_ ?_
 ·rcases z9 ht18 with ⟨c19,ht18⟩|⟨c19,ht18⟩;rotate_left
  ·refine ze Z (eN c19) ?_;refine T.skip ?_;obtain rfl:=osi ht18;exact⟨_,gP [3,4,6,9,10,11,12] [] Z Z Z,Z⟩
  refine zf Z (c19) ?_;refine T.region ?_;iterate 3 refine aA rfl rfl ?_
  refine TL.nil ?_;obtain rfl:=osi ht18;exact⟨_,gP [3,4,6,9,10,11,12] [] Z Z Z,Z⟩
 rintro _ rfl;show T X _ _ _;refine aS ?_;iterate 2 refine aA rfl rfl ?_
 refine aN Z ?_;rcases z9 q7 with ⟨c20,q7⟩|⟨c20,q7⟩
 ·refine ze Z (zQ (beq_iff_eq.2 c20)) ?_;refine aK Z ?_;refine T.region ?_;iterate 2 refine aA rfl rfl ?_
  refine TL.nil ?_;obtain rfl:=osi q7;exact⟨m5,Nat.lt_succ_self _,_,Gst.only [3,4,6,10,11,12] Z,w64 (s3+1),Z,i8⟩
 refine zf Z (zR (beq_eq_false_iff_ne.2 c20)) ?_;refine aS ?_;iterate 2 refine aA rfl rfl ?_
 refine aN Z ?_;refine T.ret ?_;obtain rfl:=osi q7;obtain rfl:_=_:=i8;obtain rfl:=osi h0;exact rO [] [6] Z undef (cT Z ResL.nil) Z Z Z Z
end Go.Proofs.YtpmhiiemklhbhaaGreat.S
