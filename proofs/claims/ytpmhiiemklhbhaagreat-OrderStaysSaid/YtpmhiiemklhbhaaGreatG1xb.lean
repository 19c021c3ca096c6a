import Derived.Test.YtpmhiiemklhbhaaGreatG1xa
set_option maxHeartbeats 4000000
set_option linter.unusedVariables false
set_option linter.unusedSimpArgs false
set_option maxRecDepth 20000
namespace Go.Proofs.YtpmhiiemklhbhaaGreat.S
open Go Go.Sm
attribute [local irreducible] T TL OpR CallT wo loop
noncomputable def vK.l1 (a0:List UInt8) (s9:Int × (List ref05_Field)):Option (Lp (Int × (List ref05_Field)) (Int × (List ref05_Field))):=
 bnd (yO a0 s9.1) fun x17=>
 bnd (app 48 s9.2 [x17]) fun x19=>
 bnd (if (w64 (x17.fRaw.fAt+x17.fRaw.fN))≥(a0.length:Int) then
 some true
else
 bnd (idx a0 (w64 (x17.fRaw.fAt+x17.fRaw.fN))) fun x23=>
 some (!((x23.toNat:Int)==44)):Option Bool) fun t21=>
 if t21=true then
 some (Lp.done (w64 (x17.fRaw.fAt+x17.fRaw.fN),x19))
else
 some (Lp.next (w64 ((w64 (x17.fRaw.fAt+x17.fRaw.fN))+1),x19))
noncomputable def vK (a0:List UInt8) (a1:Int):Option (ref05_Row × Int):=
 bnd (if a1<0 then
 some true
else
 some (decide (a1≥(a0.length:Int))):Option Bool) fun t3=>
 if t3=true then
 some ((⟨[],0⟩:ref05_Row),a1)
else
 bnd (loop (vK.l1 a0) (a1,[]):Option (Int × (List ref05_Field))) fun t6=>
 bnd (if t6.1<(a0.length:Int) then
 bnd (idx a0 t6.1) fun x27=>
 some ((x27.toNat:Int)==10)
else
 some false:Option Bool) fun t25=>
 if t25=true then
 some ((⟨t6.2,1⟩:ref05_Row),w64 (t6.1+1))
else
 bnd (if (w64 (t6.1+1))<(a0.length:Int) then
 bnd (idx a0 t6.1) fun x31=>
 if (x31.toNat:Int)=13 then
 bnd (idx a0 (w64 (t6.1+1))) fun x33=>
 some ((x33.toNat:Int)==10)
else
 some false
else
 some false:Option Bool) fun t29=>
 if t29=true then
 some ((⟨t6.2,2⟩:ref05_Row),w64 (t6.1+2))
else
 if t6.1<(a0.length:Int) then
 some ((⟨t6.2,3⟩:ref05_Row),w64 (t6.1+1))
else
 some ((⟨t6.2,0⟩:ref05_Row),t6.1)
theorem ref05_One_c {a0:List UInt8} {a1:Int} {res:ref05_Row × Int} (h0:vK a0 a1=some res):zo X 196 [.val (.string (bs a0)),dN a1] [] (fun x=>.tup [.agg [.sl 4 (List.map xS res.1.fFields),dN res.1.fEnd],dN res.2]) (fun x=>[]):=by
 unfold vK at h0;refine zb (X:=X) Z Tryz.func196 Z Z Tryz.ntmps196 Z Z ?_;refine aS ?_;refine TL.op (OpR.alloc Z Z (fun _=>Z)) Z (fun p1=>?_);refine aA Z Z ?_;refine aN Z ?_;refine aS ?_;refine z6 (OpR.build Z Z Z Z Z) Z ?_;refine TL.op (OpR.alloc Z Z (fun _=>Z)) Z (fun p2=>?_);refine zv (OpR.store 1 Z Z Z Z Z Z Z Z) ?_;refine aN Z ?_;refine T.seq ?_;refine T.seq ?_;obtain⟨t3,ht3,h0⟩:=bS h0;refine zA (fun S'=>S'=⟨[(16,(dT t3)),(6,(dP (blk p2))),(5,(dN 0)),(4,(dP (blk p1))),(1,(dN a1)),(0,.val (.string (bs a0)))],[.var (blk p1) [.val (.slice none 0 0),dN 0] 210,.var (blk p2) [.val (.slice none 0 0),dN 0] 210],93⟩) (fun _ h=>h) ?_ ?_
 ·refine T.region ?_;iterate 3 refine aA rfl rfl ?_
  rcases z9 ht3 with ⟨c4,ht3⟩|⟨c4,ht3⟩
  ·refine TL.off Z Z Z Z (eT c4) Z Z ?_;refine TL.off Z Z Z Z (eT c4) Z Z ?_;refine TL.off Z Z Z Z (eT c4) Z Z ?_;refine TL.off Z Z Z Z (eT c4) Z Z ?_;refine z6 (zt Z (eT c4) Z) Z ?_;refine TL.nil ?_;obtain rfl:=osi ht3;exact⟨_,Gst.only [0,1,4,5,6,16] Z,Z⟩
  refine TL.on Z Z Z Z (eF c4) ?_;refine aA Z Z ?_;refine TL.on Z Z Z Z (eF c4) ?_;refine aA Z Z ?_;refine TL.on Z Z Z Z (eF c4) ?_;refine z6 (zk (OpR.pure Z) (xn (lenS _))) Z ?_;refine TL.on Z Z Z Z (eF c4) ?_;refine aA Z Z ?_;refine z6 (zx Z (eF c4) Z) Z ?_;refine TL.nil ?_;obtain rfl:=osi ht3;exact⟨_,Gst.only [0,1,4,5,6,16] Z,Z⟩
 rintro _ rfl;show T X _ _ _;rcases z9 h0 with ⟨c5,h0⟩|⟨c5,h0⟩
 ·refine zf Z (c5) ?_;refine aS ?_;refine z6 (z7 1 Z Z Z Z) Z ?_;refine aA Z Z ?_;refine zv (OpR.store 0 Z Z Z Z Z Z Z Z) ?_;refine aA Z Z ?_;refine aN Z ?_;refine T.ret ?_;obtain rfl:=osi h0;exact zE (ks:=[]) (Gst.trans (Gst.only [4,5] Z) (Gst.trans (Gst.denil (ReS.cons Re.refl (ReS.cons Re.refl ReS.nil)) (ReO.var (ReL.cons (Re.base .nil) (ReL.cons Re.refl ReL.nil)) (ReO.same ReO.nil))) (Gst.pick [0] Z Z))) undef (cV 0 Z Z Z Z (cT Z ResL.nil)) Z Z Z Z
 refine ze Z (eN c5) ?_;refine aK Z ?_;refine T.seq ?_;obtain⟨t6,ht6,h0⟩:=bS h0;refine zA (fun S'=>∃ y7:Value,S'=⟨[(6,(dP (blk p2))),(5,(dN 0)),(4,(dP (blk p1))),(1,(dN t6.1)),(0,.val (.string (bs a0)))],[.var (blk p1) [.val (.slice none 0 0),dN 0] 210,.var (blk p2) [.val y7,dN 0] 210,.row y7 (List.map xS t6.2) 4 276],93⟩) (fun _ h=>h) ?_ ?_
 ·refine T.block ?_;obtain⟨n10,n15⟩:=zy ht6;refine T.loop (fun n S'=>∃ S'',Gst S' S''∧∃ y8:Value,∃ s9:Int × (List ref05_Field),S''=⟨[(6,(dP (blk p2))),(5,(dN 0)),(4,(dP (blk p1))),(1,(dN s9.1)),(0,.val (.string (bs a0)))],[.var (blk p1) [.val (.slice none 0 0),dN 0] 210,.var (blk p2) [.val y8,dN 0] 210,.row y8 (List.map xS s9.2) 4 276],93⟩∧wo (vK.l1 a0) n s9=some t6) n10 ?_ ?_
  ·exact⟨_,Gst.trans (Gst.only [0,1,4,5,6] Z) (ye (ow:=[.var (blk p1) [.val (.slice none 0 0),dN 0] 210,.var (blk p2) [.val (.slice none 0 0),dN 0] 210]) 4 276 Z),(.slice none 0 0),(a1,[]),Z,n15⟩
  rintro n10 _ ⟨_,g,y8,s9,rfl,i14⟩;refine T.ghost g ?_;obtain⟨m11,q12,rfl,q13,i14⟩:=zz i14;unfold vK.l1 at q13;refine T.block ?_;refine aS ?_;iterate 2 refine aA rfl rfl ?_
  obtain⟨x17,hx17,q13⟩:=bS q13;refine z6 (zh fn229 (ref05_field_c hx17) Z) Z ?_;refine TL.op (OpR.alloc Z Z (fun _=>Z)) Z (fun p18=>?_);refine zv (OpR.store 3 Z Z Z Z Z Z Z Z) ?_;refine aN Z ?_;refine aS ?_;refine aA Z Z ?_;refine z6 (z7 1 Z Z Z Z) Z ?_;refine z6 (z7 3 Z Z Z Z) Z ?_;refine z6 (yN Z Z Z Z Z Z Z) Z ?_;obtain⟨x19,hx19,q13⟩:=bS q13;refine TL.op (zM (m:=[x17]) xS 2 hx19 Z Z Z Z Z Z Z Z Z (fun _=>Z)) Z (fun v20=>?_);refine aA Z Z ?_;refine zv (OpR.store 1 Z Z Z Z Z Z Z Z) ?_;refine aN Z ?_;refine aS ?_;iterate 2 refine aA rfl rfl ?_
  refine z6 (z7 3 Z Z Z Z) Z ?_;iterate 2 refine aA rfl rfl ?_
  refine z6 (z7 3 Z Z Z Z) Z ?_;iterate 2 refine aA rfl rfl ?_
  refine aN Z ?_;refine T.seq ?_;refine T.seq ?_;obtain⟨t21,ht21,q13⟩:=bS q13;refine zA (fun S'=>S'=⟨[(44,(dT t21)),(6,(dP (blk p2))),(5,(dN 0)),(4,(dP (blk p1))),(1,(dN (w64 (x17.fRaw.fAt+x17.fRaw.fN)))),(0,.val (.string (bs a0)))],[.var (blk p1) [.val (.slice none 0 0),dN 0] 210,.var (blk p2) [.val v20,dN 0] 210,.row v20 (List.map xS x19) 4 276],93⟩) (fun _ h=>h) ?_ ?_;rotate_left
  ·rintro _ rfl;show T X _ _ _;rcases z9 q13 with ⟨c24,q13⟩|⟨c24,q13⟩
   ·refine zf Z (c24) ?_;refine T.exit ?_;obtain rfl:=osi q13;obtain rfl:_=_:=i14;exact⟨_,Gst.only [0,1,4,5,6] Z,v20,Z⟩
   refine ze Z (eN c24) ?_;refine aK Z ?_;refine T.region ?_;iterate 3 refine aA rfl rfl ?_
   refine TL.nil ?_;obtain rfl:=osi q13;exact⟨m11,Nat.lt_succ_self _,_,Gst.only [0,1,4,5,6] Z,v20,(w64 ((w64 (x17.fRaw.fAt+x17.fRaw.fN))+1),x19),Z,i14⟩
  refine T.region ?_;iterate 2 refine aA rfl rfl ?_
  refine z6 (zk (OpR.pure Z) (xn (lenS _))) Z ?_;iterate 2 refine aA rfl rfl ?_
  rcases z9 ht21 with ⟨c22,ht21⟩|⟨c22,ht21⟩
  ·refine TL.off Z Z Z Z (eT c22) Z Z ?_;refine TL.off Z Z Z Z (eT c22) Z Z ?_;refine TL.off Z Z Z Z (eT c22) Z Z ?_;refine TL.off Z Z Z Z (eT c22) Z Z ?_;refine z6 (zt Z (eT c22) Z) Z ?_;refine TL.nil ?_;obtain rfl:=osi ht21;exact⟨_,gP [0,1,4,5,6,44] [0,1,2] Z Z Z,Z⟩
  refine TL.on Z Z Z Z (eF c22) ?_;refine aA Z Z ?_;refine TL.on Z Z Z Z (eF c22) ?_;refine aA Z Z ?_;refine TL.on Z Z Z Z (eF c22) ?_;obtain⟨x23,hx23,ht21⟩:=bS ht21;refine z6 (wh hx23 Z Z Z Z) Z ?_;refine TL.on Z Z Z Z (eF c22) ?_;refine aA Z Z ?_;refine z6 (zx Z (eF c22) Z) Z ?_;refine TL.nil ?_;obtain rfl:=osi ht21;exact⟨_,gP [0,1,4,5,6,44] [0,1,2] Z Z Z,Z⟩
 rintro _ ⟨y7,rfl⟩;show T X _ _ _;refine T.seq ?_;refine T.seq ?_;obtain⟨t25,ht25,h0⟩:=bS h0;refine zA (fun S'=>S'=⟨[(56,(dT t25)),(6,(dP (blk p2))),(5,(dN 0)),(4,(dP (blk p1))),(1,(dN t6.1)),(0,.val (.string (bs a0)))],[.var (blk p1) [.val (.slice none 0 0),dN 0] 210,.var (blk p2) [.val y7,dN 0] 210,.row y7 (List.map xS t6.2) 4 276],93⟩) (fun _ h=>h) ?_ ?_
 ·refine T.region ?_;iterate 2 refine aA rfl rfl ?_
  refine z6 (zk (OpR.pure Z) (xn (lenS _))) Z ?_;iterate 2 refine aA rfl rfl ?_
  rcases z9 ht25 with ⟨c26,ht25⟩|⟨c26,ht25⟩;rotate_left
  ·refine TL.off Z Z Z Z (eF c26) Z Z ?_;refine TL.off Z Z Z Z (eF c26) Z Z ?_;refine TL.off Z Z Z Z (eF c26) Z Z ?_;refine TL.off Z Z Z Z (eF c26) Z Z ?_;refine z6 (zx Z (eF c26) Z) Z ?_;refine TL.nil ?_;obtain rfl:=osi ht25;exact⟨_,Gst.only [0,1,4,5,6,56] Z,Z⟩
  refine TL.on Z Z Z Z (eT c26) ?_;refine aA Z Z ?_;refine TL.on Z Z Z Z (eT c26) ?_;refine aA Z Z ?_;refine TL.on Z Z Z Z (eT c26) ?_;obtain⟨x27,hx27,ht25⟩:=bS ht25;refine z6 (wh hx27 Z Z Z Z) Z ?_;refine TL.on Z Z Z Z (eT c26) ?_;refine aA Z Z ?_;refine z6 (zt Z (eT c26) Z) Z ?_;refine TL.nil ?_;obtain rfl:=osi ht25;exact⟨_,Gst.only [0,1,4,5,6,56] Z,Z⟩
 rintro _ rfl;show T X _ _ _;rcases z9 h0 with ⟨c28,h0⟩|⟨c28,h0⟩
 ·refine zf Z (c28) ?_;refine aS ?_;refine aA Z Z ?_;refine zv (OpR.store 1 Z Z Z Z Z Z Z Z) ?_;refine aN Z ?_;refine aS ?_;refine z6 (z7 1 Z Z Z Z) Z ?_;iterate 2 refine aA rfl rfl ?_
  refine zv (OpR.store 0 Z Z Z Z Z Z Z Z) ?_;refine aA Z Z ?_;refine aN Z ?_;refine T.ret ?_;obtain rfl:=osi h0;exact zE (ks:=[]) (Gst.trans (Gst.only [4,5] Z) (Gst.trans (zC 2 Z Z (ReS.cons Re.refl (ReS.cons Re.refl ReS.nil)) (ReO.var (ReL.cons (Re.base .all) (ReL.cons Re.refl ReL.nil)) (ReO.var (ReL.cons (Re.base .all) (ReL.cons Re.refl ReL.nil)) (ReO.same ReO.nil)))) (Gst.pick [0] Z Z))) undef (cV 0 Z Z Z Z (cT Z ResL.nil)) Z Z Z Z
 refine ze Z (eN c28) ?_;refine aK Z ?_;refine T.seq ?_;refine T.seq ?_;obtain⟨t29,ht29,h0⟩:=bS h0;refine zA (fun S'=>S'=⟨[(78,(dT t29)),(6,(dP (blk p2))),(5,(dN 0)),(4,(dP (blk p1))),(1,(dN t6.1)),(0,.val (.string (bs a0)))],[.var (blk p1) [.val (.slice none 0 0),dN 0] 210,.var (blk p2) [.val y7,dN 0] 210,.row y7 (List.map xS t6.2) 4 276],93⟩) (fun _ h=>h) ?_ ?_
 ·refine T.region ?_;iterate 3 refine aA rfl rfl ?_
  refine z6 (zk (OpR.pure Z) (xn (lenS _))) Z ?_;iterate 2 refine aA rfl rfl ?_
  rcases z9 ht29 with ⟨c30,ht29⟩|⟨c30,ht29⟩;rotate_left
  ·refine TL.off Z Z Z Z (eF c30) Z Z ?_;refine TL.off Z Z Z Z (eF c30) Z Z ?_;refine TL.off Z Z Z Z (eF c30) Z Z ?_;refine TL.off Z Z Z Z (eF c30) Z Z ?_;refine z6 (zx Z (eF c30) Z) Z ?_;refine aA Z Z ?_;refine TL.off Z Z Z Z Z Z Z ?_;refine TL.off Z Z Z Z Z Z Z ?_;refine TL.off Z Z Z Z Z Z Z ?_;refine TL.off Z Z Z Z Z Z Z ?_;refine TL.off Z Z Z Z Z Z Z ?_;refine z6 (zx Z Z Z) Z ?_;refine TL.nil ?_;obtain rfl:=osi ht29;exact⟨_,Gst.only [0,1,4,5,6,78] Z,Z⟩
  refine TL.on Z Z Z Z (eT c30) ?_;refine aA Z Z ?_;refine TL.on Z Z Z Z (eT c30) ?_;refine aA Z Z ?_;refine TL.on Z Z Z Z (eT c30) ?_;obtain⟨x31,hx31,ht29⟩:=bS ht29;refine z6 (wh hx31 Z Z Z Z) Z ?_;refine TL.on Z Z Z Z (eT c30) ?_;refine aA Z Z ?_;refine z6 (zt Z (eT c30) Z) Z ?_;refine aA Z Z ?_;rcases z9 ht29 with ⟨c32,ht29⟩|⟨c32,ht29⟩;rotate_left
  ·refine TL.off Z Z Z Z (beq_eq_false_iff_ne.2 c32) Z Z ?_;refine TL.off Z Z Z Z (beq_eq_false_iff_ne.2 c32) Z Z ?_;refine TL.off Z Z Z Z (beq_eq_false_iff_ne.2 c32) Z Z ?_;refine TL.off Z Z Z Z (beq_eq_false_iff_ne.2 c32) Z Z ?_;refine TL.off Z Z Z Z (beq_eq_false_iff_ne.2 c32) Z Z ?_;refine z6 (zx Z (beq_eq_false_iff_ne.2 c32) Z) Z ?_;refine TL.nil ?_;obtain rfl:=osi ht29;exact⟨_,Gst.only [0,1,4,5,6,78] Z,Z⟩
  refine TL.on Z Z Z Z (beq_iff_eq.2 c32) ?_;refine aA Z Z ?_;refine TL.on Z Z Z Z (beq_iff_eq.2 c32) ?_;refine aA Z Z ?_;refine TL.on Z Z Z Z (beq_iff_eq.2 c32) ?_;refine aA Z Z ?_;refine TL.on Z Z Z Z (beq_iff_eq.2 c32) ?_;obtain⟨x33,hx33,ht29⟩:=bS ht29;refine z6 (wh hx33 Z Z Z Z) Z ?_;refine TL.on Z Z Z Z (beq_iff_eq.2 c32) ?_;refine aA Z Z ?_;refine z6 (zt Z (beq_iff_eq.2 c32) Z) Z ?_;refine TL.nil ?_;obtain rfl:=osi ht29;exact⟨_,Gst.only [0,1,4,5,6,78] Z,Z⟩
 rintro _ rfl;show T X _ _ _;rcases z9 h0 with ⟨c34,h0⟩|⟨c34,h0⟩
 ·refine zf Z (c34) ?_;refine aS ?_;refine aA Z Z ?_;refine zv (OpR.store 1 Z Z Z Z Z Z Z Z) ?_;refine aN Z ?_;refine aS ?_;refine z6 (z7 1 Z Z Z Z) Z ?_;iterate 2 refine aA rfl rfl ?_
  refine zv (OpR.store 0 Z Z Z Z Z Z Z Z) ?_;refine aA Z Z ?_;refine aN Z ?_;refine T.ret ?_;obtain rfl:=osi h0;exact zE (ks:=[]) (Gst.trans (Gst.only [4,5] Z) (Gst.trans (zC 2 Z Z (ReS.cons Re.refl (ReS.cons Re.refl ReS.nil)) (ReO.var (ReL.cons (Re.base .all) (ReL.cons Re.refl ReL.nil)) (ReO.var (ReL.cons (Re.base .all) (ReL.cons Re.refl ReL.nil)) (ReO.same ReO.nil)))) (Gst.pick [0] Z Z))) undef (cV 0 Z Z Z Z (cT Z ResL.nil)) Z Z Z Z
 refine ze Z (eN c34) ?_;refine aK Z ?_;refine T.seq ?_;refine aS ?_;iterate 2 refine aA rfl rfl ?_
 refine z6 (zk (OpR.pure Z) (xn (lenS _))) Z ?_;refine aA Z Z ?_;refine aN Z ?_;rcases z9 h0 with ⟨c35,h0⟩|⟨c35,h0⟩;rotate_left
 ·refine ze Z (eF c35) ?_;refine aK Z ?_;refine aS ?_;refine z6 (z7 1 Z Z Z Z) Z ?_;refine aA Z Z ?_;refine zv (OpR.store 0 Z Z Z Z Z Z Z Z) ?_;refine aA Z Z ?_;refine aN Z ?_;refine T.ret ?_;obtain rfl:=osi h0;exact zE (ks:=[]) (Gst.trans (Gst.only [4,5] Z) (Gst.trans (zC 2 Z Z (ReS.cons Re.refl (ReS.cons Re.refl ReS.nil)) (ReO.var (ReL.cons (Re.base .all) (ReL.cons Re.refl ReL.nil)) (ReO.var (ReL.cons (Re.base .all) (ReL.cons Re.refl ReL.nil)) (ReO.same ReO.nil)))) (Gst.pick [0] Z Z))) undef (cV 0 Z Z Z Z (cT Z ResL.nil)) Z Z Z Z
 refine zf Z (eT c35) ?_;refine aS ?_;refine aA Z Z ?_;refine zv (OpR.store 1 Z Z Z Z Z Z Z Z) ?_;refine aN Z ?_;refine aS ?_;refine z6 (z7 1 Z Z Z Z) Z ?_;iterate 2 refine aA rfl rfl ?_
 refine zv (OpR.store 0 Z Z Z Z Z Z Z Z) ?_;refine aA Z Z ?_;refine aN Z ?_;refine T.ret ?_;obtain rfl:=osi h0;exact zE (ks:=[]) (Gst.trans (Gst.only [4,5] Z) (Gst.trans (zC 2 Z Z (ReS.cons Re.refl (ReS.cons Re.refl ReS.nil)) (ReO.var (ReL.cons (Re.base .all) (ReL.cons Re.refl ReL.nil)) (ReO.var (ReL.cons (Re.base .all) (ReL.cons Re.refl ReL.nil)) (ReO.same ReO.nil)))) (Gst.pick [0] Z Z))) undef (cV 0 Z Z Z Z (cT Z ResL.nil)) Z Z Z Z
noncomputable def vA.l1 (a0:List UInt8) (s4:Int × (List ref05_Row)):Option (Lp (Int × (List ref05_Row)) (List ref05_Row)):=
 if s4.1<(a0.length:Int) then
 bnd (vK a0 s4.1) fun x13=>
 bnd (app 32 s4.2 [x13.1]) fun x15=>
 some (Lp.next (x13.2,x15))
else
 some (Lp.done s4.2)
noncomputable def vA (a0:List UInt8):Option (List ref05_Row):=
 bnd (loop (vA.l1 a0) (0,[]):Option (List ref05_Row)) fun t1=>
 some t1
theorem ref05_All_c {a0:List UInt8} {res:(List ref05_Row)} (h0:vA a0=some res):zo X 133 [.val (.string (bs a0))] [] (fun x=>.sl 2 (List.map wF res)) (fun x=>[]):=by
 unfold vA at h0;refine zb (X:=X) Z Tryz.func133 Z Z Tryz.ntmps133 Z Z ?_;refine aS ?_;refine aA Z Z ?_;refine aN Z ?_;refine aS ?_;refine aA Z Z ?_;refine aN Z ?_;refine T.seq ?_;refine aS ?_;refine aA Z Z ?_;refine aN Z ?_;obtain⟨t1,ht1,h0⟩:=bS h0;refine zA (fun S'=>∃ y2:Value,S'=⟨[(3,.val y2),(2,.val (.slice none 0 0))],[.row y2 (List.map wF t1) 2 210],23⟩) (fun _ h=>h) ?_ ?_;rotate_left
 ·rintro _ ⟨y2,rfl⟩;show T X _ _ _;refine aS ?_;iterate 2 refine aA rfl rfl ?_
  refine aN Z ?_;refine T.ret ?_;obtain rfl:=osi h0;exact zE (ks:=[]) (Gst.trans (Gst.only [2] Z) (Gst.trans (zC 0 Z Z (ReS.cons (Re.base .all) ReS.nil) (ReO.same ReO.nil)) (Gst.pick [] Z Z))) undef (cT Z ResL.nil) Z Z Z Z
 refine T.block ?_;obtain⟨n5,n10⟩:=zy ht1;refine T.loop (fun n S'=>∃ S'',Gst S' S''∧∃ y3:Value,∃ s4:Int × (List ref05_Row),S''=⟨[(4,(dN s4.1)),(3,.val y3),(2,.val (.slice none 0 0)),(0,.val (.string (bs a0)))],[.row y3 (List.map wF s4.2) 2 210],23⟩∧wo (vA.l1 a0) n s4=some t1) n5 ?_ ?_
 ·exact⟨_,Gst.trans (Gst.only [0,2,3,4] Z) (ye (ow:=[]) 2 210 Z),(.slice none 0 0),(0,[]),Z,n10⟩
 rintro n5 _ ⟨_,g,y3,s4,rfl,i9⟩;refine T.ghost g ?_;obtain⟨m6,q7,rfl,q8,i9⟩:=zz i9;unfold vA.l1 at q8;refine T.seq ?_;refine aS ?_;iterate 2 refine aA rfl rfl ?_
 refine z6 (zk (OpR.pure Z) (xn (lenS _))) Z ?_;refine aA Z Z ?_;refine aN Z ?_;rcases z9 q8 with ⟨c12,q8⟩|⟨c12,q8⟩;rotate_left
 ·refine ze Z (eF c12) ?_;refine T.exit ?_;obtain rfl:=osi q8;obtain rfl:_=_:=i9;exact⟨_,Gst.only [2,3] Z,y3,Z⟩
 refine zf Z (eT c12) ?_;refine aK Z ?_;refine T.block ?_;refine aS ?_;iterate 2 refine aA rfl rfl ?_
 obtain⟨x13,hx13,q8⟩:=bS q8;refine z6 (zh fn196 (ref05_One_c hx13) Z) Z ?_;iterate 3 refine aA rfl rfl ?_
 refine TL.op (OpR.alloc Z Z (fun _=>Z)) Z (fun p14=>?_);refine zv (OpR.store 1 Z Z Z Z Z Z Z Z) ?_;refine aA Z Z ?_;refine aN Z ?_;refine aS ?_;refine aA Z Z ?_;refine z6 (z7 1 Z Z Z Z) Z ?_;refine z6 (yN Z Z Z Z Z Z Z) Z ?_;obtain⟨x15,hx15,q8⟩:=bS q8;refine TL.op (zM (m:=[x13.1]) wF 0 hx15 Z Z Z Z Z Z Z Z Z (fun _=>Z)) Z (fun v16=>?_);refine aA Z Z ?_;refine aN Z ?_;refine T.region ?_;iterate 2 refine aA rfl rfl ?_
 refine TL.nil ?_;obtain rfl:=osi q8;exact⟨m6,Nat.lt_succ_self _,_,gP [0,2,3,4] [0] Z Z Z,v16,(x13.2,x15),Z,i9⟩
noncomputable def wP.l1 (a0:List UInt8) (a1:List Int) (s2:(List UInt8) × Int):Option (Lp ((List UInt8) × Int) (List UInt8)):=
 if s2.2<(a1.length:Int) then
 bnd (idx a1 s2.2) fun x11=>
 bnd (cut a0 x11 (w64 (x11+1))) fun x12=>
 bnd (catS s2.1 x12) fun x13=>
 some (Lp.next (x13,w64 (s2.2+1)))
else
 some (Lp.done s2.1)
noncomputable def wP (a0:List UInt8) (a1:List Int):Option (List UInt8):=
 bnd (loop (wP.l1 a0 a1) ([],0):Option (List UInt8)) fun t1=>
 some t1
theorem ref05_Text_c {a0:List UInt8} {a1:List Int} {res:(List UInt8)} (h0:wP a0 a1=some res):zo X 197 [.val (.string (bs a0)),.sl 1 (List.map (eI .i64) a1)] [] (fun x=>.val (.string (bs res))) (fun x=>[]):=by
 unfold wP at h0;refine zb (X:=X) Z Tryz.func197 Z Z Tryz.ntmps197 Z Z ?_;refine aS ?_;refine aA Z Z ?_;refine aN Z ?_;refine aS ?_;refine aA Z Z ?_;refine aN Z ?_;refine T.seq ?_;refine aS ?_;refine aA Z Z ?_;refine z6 (zk (OpR.pure Z) (xn (w9 _ _))) Z ?_;refine aA Z Z ?_;refine aN Z ?_;obtain⟨t1,ht1,h0⟩:=bS h0;refine zA (fun S'=>S'=⟨[(5,.val (.string (bs t1))),(4,.val (.string (bs [])))],[],23⟩) (fun _ h=>h) ?_ ?_;rotate_left
 ·rintro _ rfl;show T X _ _ _;refine aS ?_;iterate 2 refine aA rfl rfl ?_
  refine aN Z ?_;refine T.ret ?_;obtain rfl:=osi h0;exact rO [] [4] Z undef (cT Z ResL.nil) Z Z Z Z
 refine T.block ?_;obtain⟨n3,n8⟩:=zy ht1;refine T.loop (fun n S'=>∃ S'',Gst S' S''∧∃ s2:(List UInt8) × Int,S''=⟨[(10,(dN s2.2)),(9,(dN (a1.length:Int))),(8,.sl 1 (List.map (eI .i64) a1)),(5,.val (.string (bs s2.1))),(4,.val (.string (bs []))),(0,.val (.string (bs a0)))],[],23⟩∧wo (wP.l1 a0 a1) n s2=some t1) n3 ?_ ?_
 ·exact⟨_,Gst.only [0,4,5,8,9,10] Z,([],0),Z,n8⟩
 rintro n3 _ ⟨_,g,s2,rfl,i7⟩;refine T.ghost g ?_;obtain⟨m4,q5,rfl,q6,i7⟩:=zz i7;unfold wP.l1 at q6;refine aS ?_;refine aA Z Z ?_;refine aN Z ?_;refine T.seq ?_;rcases z9 q6 with ⟨c10,q6⟩|⟨c10,q6⟩;rotate_left
 ·refine ze Z (eF c10) ?_;refine T.exit ?_;obtain rfl:=osi q6;obtain rfl:_=_:=i7;exact⟨_,Gst.only [4,5] Z,Z⟩
 refine zf Z (eT c10) ?_;refine aK Z ?_;refine T.seq ?_;refine T.block ?_;refine aS ?_;obtain⟨x11,hx11,q6⟩:=bS q6;refine z6 (zp (eI .i64) hx11 Z Z Z Z Z) Z ?_;iterate 2 refine aA rfl rfl ?_
 refine aN Z ?_;refine T.region ?_;iterate 5 refine aA rfl rfl ?_
 obtain⟨x12,hx12,q6⟩:=bS q6;refine z6 (rl hx12 Z Z Z (BdM.some Z) (BdM.some Z)) Z ?_;obtain⟨x13,hx13,q6⟩:=bS q6;refine z6 (OpR.concatM hx13 Z Z) Z ?_;refine aA Z Z ?_;refine aN Z ?_;refine T.region ?_;iterate 2 refine aA rfl rfl ?_
 refine TL.nil ?_;obtain rfl:=osi q6;exact⟨m4,Nat.lt_succ_self _,_,Gst.only [0,4,5,8,9,10] Z,(x13,w64 (s2.2+1)),Z,i7⟩
noncomputable def vg.l1 (a0:List UInt8) (a1:ref05_Row) (s8:Int × (List ref07_Cell)):Option (Lp (Int × (List ref07_Cell)) (Ex (List ref07_Cell) (ref08_Row × Int))):=
 if s8.1<(a1.fFields.length:Int) then
 bnd (idx a1.fFields s8.1) fun x17=>
 if (x17.fBytes.length:Int)>400 then
 some (Lp.done (Ex.ret ((⟨[],0,false⟩:ref08_Row),7)))
else
 bnd (wP a0 x17.fBytes) fun x21=>
 bnd (cut a0 x17.fRaw.fAt (w64 (x17.fRaw.fAt+x17.fRaw.fN))) fun x22=>
 bnd (app 40 s8.2 [(⟨x21,x22,true⟩:ref07_Cell)]) fun x23=>
 some (Lp.next (w64 (s8.1+1),x23))
else
 some (Lp.done (Ex.brk s8.2))
noncomputable def vg (a0:List UInt8) (a1:ref05_Row):Option (ref08_Row × Int):=
 if (a1.fFields.length:Int)>40 then
 some ((⟨[],0,false⟩:ref08_Row),6)
else
 bnd (loop (vg.l1 a0 a1) (0,[]):Option (Ex (List ref07_Cell) (ref08_Row × Int))) fun t4=>match t4 with
| .brk u5=>
 some ((⟨u5,a1.fEnd,false⟩:ref08_Row),0)
| .ret u5=>some u5
theorem ref08_Load_c {a0:List UInt8} {a1:ref05_Row} {res:ref08_Row × Int} (h0:vg a0 a1=some res):zo X 134 [.val (.string (bs a0)),.agg [.sl 4 (List.map xS a1.fFields),dN a1.fEnd]] [] (fun x=>.tup [.agg [.sl 3 (List.map zB res.1.fCells),dN res.1.fEnd,dT res.1.fHidden],dN res.2]) (fun x=>[]):=by
 unfold vg at h0;refine zb (X:=X) Z Tryz.func134 Z Z Tryz.ntmps134 Z Z ?_;refine aS ?_;refine z6 (zD Z Z) Z ?_;refine TL.op (OpR.alloc Z Z (fun _=>Z)) Z (fun p1=>?_);refine aA Z Z ?_;refine aN Z ?_;refine aS ?_;iterate 2 refine aA rfl rfl ?_
 refine z6 (OpR.build Z Z Z Z Z) Z ?_;refine TL.op (OpR.alloc Z Z (fun _=>Z)) Z (fun p2=>?_);refine zv (OpR.store 1 Z Z Z Z Z Z Z Z) ?_;refine aN Z ?_;refine T.seq ?_;refine aS ?_;iterate 2 refine aA rfl rfl ?_
 refine z6 (zk (OpR.pure Z) (xn (w9 _ _))) Z ?_;refine aA Z Z ?_;refine aN Z ?_;rcases z9 h0 with ⟨c3,h0⟩|⟨c3,h0⟩
 ·refine zf Z (eT c3) ?_;refine aS ?_;refine z6 (OpR.build Z Z Z Z Z) Z ?_;refine zv (OpR.store 0 Z Z Z Z Z Z Z Z) ?_;refine aA Z Z ?_;refine aN Z ?_;refine T.ret ?_;obtain rfl:=osi h0;exact zE (ks:=[]) (Gst.trans (Gst.only [4,5] Z) (Gst.trans (Gst.denil (ReS.cons Re.refl (ReS.cons Re.refl ReS.nil)) (ReO.var (ReL.cons (Re.base .nil) (ReL.cons Re.refl (ReL.cons Re.refl ReL.nil))) (ReO.same ReO.nil))) (Gst.pick [0] Z Z))) undef (cV 0 Z Z Z Z (cT Z ResL.nil)) Z Z Z Z
 refine ze Z (eF c3) ?_;refine aK Z ?_;refine T.seq ?_;refine aS ?_;iterate 2 refine aA rfl rfl ?_
 refine z6 (zk (OpR.pure Z) (xn (w9 _ _))) Z ?_;refine aA Z Z ?_;refine aN Z ?_;obtain⟨t4,ht4,h0⟩:=bS h0;refine zA (fun S'=>∃ u5,t4=Ex.brk u5∧∃ y6:Value,S'=⟨[(6,(dP (blk p2))),(5,(dN 0)),(4,(dP (blk p1)))],[.var (blk p1) [.val (.slice none 0 0),dN 0,dT false] 60,.var (blk p2) [.val y6,dN a1.fEnd,dT false] 60,.row y6 (List.map zB u5) 3 151],53⟩) (fun _ h=>h) ?_ ?_;rotate_left
 ·rintro _ ⟨u5,rfl,y6,rfl⟩;show T X _ _ _;refine aS ?_;refine z6 (z7 1 Z Z Z Z) Z ?_;refine zv (OpR.store 0 Z Z Z Z Z Z Z Z) ?_;refine aA Z Z ?_;refine aN Z ?_;refine T.ret ?_;obtain rfl:=osi h0;exact zE (ks:=[]) (Gst.trans (Gst.only [4,5] Z) (Gst.trans (zC 2 Z Z (ReS.cons Re.refl (ReS.cons Re.refl ReS.nil)) (ReO.var (ReL.cons (Re.base .all) (ReL.cons Re.refl (ReL.cons Re.refl ReL.nil))) (ReO.var (ReL.cons (Re.base .all) (ReL.cons Re.refl (ReL.cons Re.refl ReL.nil))) (ReO.same ReO.nil)))) (Gst.pick [0] Z Z))) undef (cV 0 Z Z Z Z (cT Z ResL.nil)) Z Z Z Z
 refine T.block ?_;obtain⟨n9,n14⟩:=zy ht4;refine T.loop (fun n S'=>∃ S'',Gst S' S''∧∃ y7:Value,∃ s8:Int × (List ref07_Cell),S''=⟨[(20,(dN s8.1)),(19,(dN (a1.fFields.length:Int))),(18,.sl 4 (List.map xS a1.fFields)),(6,(dP (blk p2))),(5,(dN 0)),(4,(dP (blk p1))),(0,.val (.string (bs a0)))],[.var (blk p1) [.val (.slice none 0 0),dN 0,dT false] 60,.var (blk p2) [.val y7,dN a1.fEnd,dT false] 60,.row y7 (List.map zB s8.2) 3 151],53⟩∧wo (vg.l1 a0 a1) n s8=some t4) n9 ?_ ?_
 ·exact⟨_,Gst.trans (Gst.only [0,4,5,6,18,19,20] Z) (ye (ow:=[.var (blk p1) [.val (.slice none 0 0),dN 0,dT false] 60,.var (blk p2) [.val (.slice none 0 0),dN a1.fEnd,dT false] 60]) 3 151 Z),(.slice none 0 0),(0,[]),Z,n14⟩
 rintro n9 _ ⟨_,g,y7,s8,rfl,i13⟩;refine T.ghost g ?_;obtain⟨m10,q11,rfl,q12,i13⟩:=zz i13;unfold vg.l1 at q12;refine aS ?_;refine aA Z Z ?_;refine aN Z ?_;refine T.seq ?_;rcases z9 q12 with ⟨c16,q12⟩|⟨c16,q12⟩;rotate_left
 ·refine ze Z (eF c16) ?_;refine T.exit ?_;obtain rfl:=osi q12;obtain rfl:_=_:=i13;exact⟨_,Gst.only [4,5,6] Z,_,Z,y7,Z⟩
 refine zf Z (eT c16) ?_;refine aK Z ?_;refine T.seq ?_;refine T.block ?_;refine aS ?_;obtain⟨x17,hx17,q12⟩:=bS q12;refine z6 (zp xS hx17 Z Z Z Z Z) Z ?_;refine aA Z Z ?_;refine TL.op (OpR.alloc Z Z (fun _=>Z)) Z (fun p18=>?_);refine zv (OpR.store 3 Z Z Z Z Z Z Z Z) ?_;refine aN Z ?_;refine T.seq ?_;refine aS ?_;refine aA Z Z ?_;refine z6 (z7 3 Z Z Z Z) Z ?_;refine z6 (zk (OpR.pure Z) (xn (w9 _ _))) Z ?_;refine aA Z Z ?_;refine aN Z ?_;rcases z9 q12 with ⟨c19,q12⟩|⟨c19,q12⟩
 ·refine zf Z (eT c19) ?_;refine aS ?_;refine z6 (OpR.build Z Z Z Z Z) Z ?_;refine zv (OpR.store 0 Z Z Z Z Z Z Z Z) ?_;refine aA Z Z ?_;refine aN Z ?_;refine T.ret ?_;obtain rfl:=osi q12;obtain rfl:_=_:=i13;obtain rfl:=osi h0;exact zE (ks:=[]) (Gst.trans (Gst.only [4,5] Z) (Gst.trans (Gst.denil (ReS.cons Re.refl (ReS.cons Re.refl ReS.nil)) (ReO.var (ReL.cons (Re.base .nil) (ReL.cons Re.refl (ReL.cons Re.refl ReL.nil))) (ReO.same (ReO.same (ReO.same ReO.nil))))) (Gst.pick [0] Z Z))) undef (cV 0 Z Z Z Z (cT Z ResL.nil)) Z Z Z Z
 refine ze Z (eF c19) ?_;refine aK Z ?_;obtain⟨x21,hx21,q12⟩:=bS q12;obtain⟨x22,hx22,q12⟩:=bS q12;obtain⟨x23,hx23,q12⟩:=bS q12;refine yA zV (fun env20=>[dP (blk p2),.val y7,.val (.string (bs a0)),.val (.pointer (some ⟨(blk p18),3,none⟩)),.sl 1 (List.map (eI .i64) x17.fBytes),.val (.string (bs x21)),.val (.string (bs a0)),dP (blk p18),dP (blk p18),dN x17.fRaw.fAt,dP (blk p18),dP (blk p18),dN x17.fRaw.fAt,dP (blk p18),.val (.pointer (some ⟨(blk p18),1,none⟩)),dN x17.fRaw.fN,dN (w64 (x17.fRaw.fAt+x17.fRaw.fN)),.val (.string (bs x22)),.agg [.val (.string (bs x21)),.val (.string (bs x22)),dT true],.sl 3 (List.map zB [(⟨x21,x22,true⟩:ref07_Cell)]),.val (env20 20),dP (blk p2),.dead]) (fun D env20=>[.var (blk p1) [.val (.slice none 0 0),dN 0,dT false] 60,(bif D 22 then .var (blk p2) [.val (env20 20),dN a1.fEnd,dT false] 60 else .var (blk p2) [.val y7,dN a1.fEnd,dT false] 60),(bif D 20 then .row (env20 20) (List.map zB x23) 3 151 else .row y7 (List.map zB s8.2) 3 151),.var (blk p18) [dN x17.fRaw.fAt,dN x17.fRaw.fN,dN x17.fKind,.sl 1 (List.map (eI .i64) x17.fBytes)] 276]) [0,1,0,0,8,28,0,0,128,384,0,1024,3072,0,8192,24576,64512,131008,262140,524284,1048575,2097151,4194303] [0,4,5,6,18,19,20] _ (by decide +kernel) (by decide +kernel) (fun _=>Z) (fun _=>Z) ?_ (fun _=>Z) (fun _=>Z) ?_;rotate_left
 ·intro env20;show T X _ _ _;refine T.region ?_;iterate 2 refine aA rfl rfl ?_
  refine TL.nil ?_;obtain rfl:=osi q12;exact⟨m10,Nat.lt_succ_self _,_,gP [0,4,5,6,18,19,20] [0,1,2] Z Z Z,(env20 20),(w64 (s8.1+1),x23),Z,i13⟩
 refine aC ?_;refine zi true ?_ (fun _ _ _ _ _ _ _=>Z) ?_
 ·intro D env20 hA;have e20:D 20=false:=hA.no 20 _ rfl rfl;have e22:D 22=false:=hA.no 22 _ rfl rfl;exact zK [(20,false),(22,false)] ⟨e20,e22,trivial⟩ (Want.plain Z) (z7 1 Z Z Z Z) (fun x=>Z) (fun x=>Z)
 iterate 2 refine aC ?_
 refine oT (.sl 1 (List.map (eI .i64) x17.fBytes)) (fun _ _=>z7 3 Z Z Z Z) ?_;refine oT (.val (.string (bs x21))) (fun _ _=>zh fn197 (ref05_Text_c hx21) Z) ?_;iterate 3 refine aC ?_
 refine oT ((dN x17.fRaw.fAt)) (fun _ _=>z7 3 Z Z Z Z) ?_;iterate 2 refine aC ?_
 refine oT ((dN x17.fRaw.fAt)) (fun _ _=>z7 3 Z Z Z Z) ?_;iterate 2 refine aC ?_
 refine oT ((dN x17.fRaw.fN)) (fun _ _=>z7 3 Z Z Z Z) ?_;refine aC ?_;refine oT (.val (.string (bs x22))) (fun _ _=>rl hx22 Z Z Z (BdM.some Z) (BdM.some Z)) ?_;refine oT (.agg [.val (.string (bs x21)),.val (.string (bs x22)),dT true]) (fun _ _=>OpR.build Z Z Z Z Z) ?_;refine oT (.sl 3 (List.map zB [(⟨x21,x22,true⟩:ref07_Cell)])) (fun _ _=>yN Z Z Z Z Z Z Z) ?_;refine zi true ?_ (fun D hA env20 x j hj hD=>match j,hj,hD with|0,_,_=>Z|1,_,_=>Z|2,_,_=>Z|3,_,_=>Z|4,_,_=>Z|5,_,_=>Z|6,_,_=>Z|7,_,_=>Z|8,_,_=>Z|9,_,_=>Z|10,_,_=>Z|11,_,_=>Z|12,_,_=>Z|13,_,_=>Z|14,_,_=>Z|15,_,_=>Z|16,_,_=>Z|17,_,_=>Z|18,_,_=>Z|19,_,_=>Z|20,hj,_=>absurd Z hj|21,_,_=>Z|22,_,_=>Z|_+23,_,_=>Z) ?_
 ·intro D env20 hA;have e22:D 22=false:=hA.no 22 _ rfl rfl;exact zK [(22,false),(20,false)] ⟨e22,hA.me,trivial⟩ (Want.plain Z) (zM (m:=[(⟨x21,x22,true⟩:ref07_Cell)]) zB 2 hx23 Z Z Z Z Z Z Z Z Z (fun _=>Z)) (fun x=>Z) (fun x=>Z)
 refine aC ?_;refine zi true ?_ (fun _ _ _ _ _ _ _=>Z) ?_
 ·intro D env20 hA;have e20:D 20=true:=hA.yes 20 _ rfl rfl;exact zK [(20,true),(22,false)] ⟨e20,hA.me,trivial⟩ (Want.plain Z) (OpR.store 1 Z Z Z Z Z Z Z Z) (fun x=>Z) (fun x=>Z)
 exact trivial
noncomputable def yZ.l1 (a0:List UInt8) (x4:(List ref05_Row)) (s10:Int × Bool × (List ref08_Row)):Option (Lp (Int × Bool × (List ref08_Row)) (Ex (Bool × (List ref08_Row)) (ref11_Grid × Int))):=
 if s10.1<(x4.length:Int) then
 bnd (idx x4 s10.1) fun x19=>
 bnd (vg a0 x19) fun x21=>
 if x21.2=0 then
 bnd (app 40 s10.2.2 [x21.1]) fun x24=>
 some (Lp.next (w64 (s10.1+1),(!(x19.fEnd==0)),x24))
else
 some (Lp.done (Ex.ret ((⟨[],false,2⟩:ref11_Grid),x21.2)))
else
 some (Lp.done (Ex.brk (s10.2.1,s10.2.2)))
noncomputable def yZ.l2 (x4:(List ref05_Row)) (s27:Int × Int):Option (Lp (Int × Int) Int):=
 if s27.1≥0 then
 bnd (idx x4 s27.1) fun x36=>
 bnd (if x36.fEnd=0 then
 some s27.2
else
 some x36.fEnd:Option Int) fun t37=>
 some (Lp.next (w64 (s27.1-1),t37))
else
 some (Lp.done s27.2)
noncomputable def yZ (a0:List UInt8):Option (ref11_Grid × Int):=
 if (a0.length:Int)>4096 then
 some ((⟨[],false,2⟩:ref11_Grid),8)
else
 bnd (vA a0) fun x4=>
 if (x4.length:Int)>400 then
 some ((⟨[],false,2⟩:ref11_Grid),6)
else
 bnd (loop (yZ.l1 a0 x4) (0,false,[]):Option (Ex (Bool × (List ref08_Row)) (ref11_Grid × Int))) fun t6=>match t6 with
| .brk u7=>
 bnd (loop (yZ.l2 x4) (w64 ((x4.length:Int)-1),2):Option Int) fun t26=>
 some ((⟨u7.2,u7.1,t26⟩:ref11_Grid),0)
| .ret u7=>some u7
theorem ref11_Load_c {a0:List UInt8} {res:ref11_Grid × Int} (h0:yZ a0=some res):zo X 68 [.val (.string (bs a0))] [] (fun x=>.tup [.agg [.sl 3 (List.map zl res.1.fRows),dT res.1.fTail,dN res.1.fEnd],dN res.2]) (fun x=>[]):=by
 unfold yZ at h0;refine zb (X:=X) Z Tryz.func68 Z Z Tryz.ntmps68 Z Z ?_;refine aS ?_;refine TL.op (OpR.alloc Z Z (fun _=>Z)) Z (fun p1=>?_);refine aA Z Z ?_;refine aN Z ?_;refine aS ?_;refine z6 (OpR.build Z Z Z Z Z) Z ?_;refine TL.op (OpR.alloc Z Z (fun _=>Z)) Z (fun p2=>?_);refine zv (OpR.store 1 Z Z Z Z Z Z Z Z) ?_;refine aN Z ?_;refine T.seq ?_;refine aS ?_;refine aA Z Z ?_;refine z6 (zk (OpR.pure Z) (xn (lenS _))) Z ?_;refine aA Z Z ?_;refine aN Z ?_;rcases z9 h0 with ⟨c3,h0⟩|⟨c3,h0⟩
 ·refine zf Z (eT c3) ?_;refine aS ?_;refine z6 (z7 1 Z Z Z Z) Z ?_;refine zv (OpR.store 0 Z Z Z Z Z Z Z Z) ?_;refine aA Z Z ?_;refine aN Z ?_;refine T.ret ?_;obtain rfl:=osi h0;exact zE (ks:=[]) (Gst.trans (Gst.only [2,3] Z) (Gst.trans (Gst.denil (ReS.cons Re.refl (ReS.cons Re.refl ReS.nil)) (ReO.var (ReL.cons (Re.base .nil) (ReL.cons Re.refl (ReL.cons Re.refl ReL.nil))) (ReO.same ReO.nil))) (Gst.pick [0] Z Z))) undef (cV 0 Z Z Z Z (cT Z ResL.nil)) Z Z Z Z
 refine ze Z (eF c3) ?_;refine aK Z ?_;refine aS ?_;refine aA Z Z ?_;obtain⟨x4,hx4,h0⟩:=bS h0;refine z6 (zh fn133 (ref05_All_c hx4) Z) Z ?_;refine aA Z Z ?_;refine aN Z ?_;refine T.seq ?_;refine aS ?_;refine aA Z Z ?_;refine z6 (zk (OpR.pure Z) (xn (w9 _ _))) Z ?_;refine aA Z Z ?_;refine aN Z ?_;rcases z9 h0 with ⟨c5,h0⟩|⟨c5,h0⟩
 ·refine zf Z (eT c5) ?_;refine aS ?_;refine z6 (z7 1 Z Z Z Z) Z ?_;refine zv (OpR.store 0 Z Z Z Z Z Z Z Z) ?_;refine aA Z Z ?_;refine aN Z ?_;refine T.ret ?_;obtain rfl:=osi h0;exact zE (ks:=[]) (Gst.trans (Gst.only [2,3] Z) (Gst.trans (Gst.denil (ReS.cons Re.refl (ReS.cons Re.refl ReS.nil)) (ReO.var (ReL.cons (Re.base .nil) (ReL.cons Re.refl (ReL.cons Re.refl ReL.nil))) (ReO.same ReO.nil))) (Gst.pick [0] Z Z))) undef (cV 0 Z Z Z Z (cT Z ResL.nil)) Z Z Z Z
 refine ze Z (eF c5) ?_;refine aK Z ?_;refine T.seq ?_;refine aS ?_;refine aA Z Z ?_;refine z6 (zk (OpR.pure Z) (xn (w9 _ _))) Z ?_;refine aA Z Z ?_;refine aN Z ?_;obtain⟨t6,ht6,h0⟩:=bS h0;refine zA (fun S'=>∃ u7,t6=Ex.brk u7∧∃ y8:Value,S'=⟨[(5,.sl 2 (List.map wF x4)),(4,(dP (blk p2))),(3,(dN 0)),(2,(dP (blk p1)))],[.var (blk p1) [.val (.slice none 0 0),dT false,dN 0] 31,.var (blk p2) [.val y8,dT u7.1,dN 2] 31,.row y8 (List.map zl u7.2) 3 60],69⟩) (fun _ h=>h) ?_ ?_;rotate_left
 ·rintro _ ⟨u7,rfl,y8,rfl⟩;show T X _ _ _;refine T.seq ?_;refine aS ?_;refine aA Z Z ?_;refine z6 (zk (OpR.pure Z) (xn (w9 _ _))) Z ?_;iterate 2 refine aA rfl rfl ?_
  refine aN Z ?_;obtain⟨t26,ht26,h0⟩:=bS h0;refine zA (fun S'=>S'=⟨[(4,(dP (blk p2))),(3,(dN 0)),(2,(dP (blk p1)))],[.var (blk p1) [.val (.slice none 0 0),dT false,dN 0] 31,.var (blk p2) [.val y8,dT u7.1,dN t26] 31,.row y8 (List.map zl u7.2) 3 60],69⟩) (fun _ h=>h) ?_ ?_;rotate_left
  ·rintro _ rfl;show T X _ _ _;refine aS ?_;refine z6 (z7 1 Z Z Z Z) Z ?_;refine zv (OpR.store 0 Z Z Z Z Z Z Z Z) ?_;refine aA Z Z ?_;refine aN Z ?_;refine T.ret ?_;obtain rfl:=osi h0;exact zE (ks:=[]) (Gst.trans (Gst.only [2,3] Z) (Gst.trans (zC 2 Z Z (ReS.cons Re.refl (ReS.cons Re.refl ReS.nil)) (ReO.var (ReL.cons (Re.base .all) (ReL.cons Re.refl (ReL.cons Re.refl ReL.nil))) (ReO.var (ReL.cons (Re.base .all) (ReL.cons Re.refl (ReL.cons Re.refl ReL.nil))) (ReO.same ReO.nil)))) (Gst.pick [0] Z Z))) undef (cV 0 Z Z Z Z (cT Z ResL.nil)) Z Z Z Z
  refine T.block ?_;obtain⟨n28,n33⟩:=zy ht26;refine T.loop (fun n S'=>∃ S'',Gst S' S''∧∃ s27:Int × Int,S''=⟨[(10,(dN s27.1)),(5,.sl 2 (List.map wF x4)),(4,(dP (blk p2))),(3,(dN 0)),(2,(dP (blk p1)))],[.var (blk p1) [.val (.slice none 0 0),dT false,dN 0] 31,.var (blk p2) [.val y8,dT u7.1,dN s27.2] 31,.row y8 (List.map zl u7.2) 3 60],69⟩∧wo (yZ.l2 x4) n s27=some t26) n28 ?_ ?_
  ·exact⟨_,Gst.only [2,3,4,5,10] Z,(w64 ((x4.length:Int)-1),2),Z,n33⟩
  rintro n28 _ ⟨_,g,s27,rfl,i32⟩;refine T.ghost g ?_;obtain⟨m29,q30,rfl,q31,i32⟩:=zz i32;unfold yZ.l2 at q31;refine T.seq ?_;refine aS ?_;iterate 2 refine aA rfl rfl ?_
  refine aN Z ?_;rcases z9 q31 with ⟨c35,q31⟩|⟨c35,q31⟩;rotate_left
  ·refine ze Z (eF c35) ?_;refine T.exit ?_;obtain rfl:=osi q31;obtain rfl:_=_:=i32;exact⟨_,Gst.only [2,3,4] Z,Z⟩
  refine zf Z (eT c35) ?_;refine aK Z ?_;refine T.seq ?_;refine T.block ?_;refine aS ?_;iterate 2 refine aA rfl rfl ?_
  obtain⟨x36,hx36,q31⟩:=bS q31;refine z6 (zp wF hx36 Z Z Z Z Z) Z ?_;iterate 3 refine aA rfl rfl ?_
  refine aN Z ?_;obtain⟨t37,ht37,q31⟩:=bS q31;refine zA (fun S'=>S'=⟨[(10,(dN s27.1)),(5,.sl 2 (List.map wF x4)),(4,(dP (blk p2))),(3,(dN 0)),(2,(dP (blk p1)))],[.var (blk p1) [.val (.slice none 0 0),dT false,dN 0] 31,.var (blk p2) [.val y8,dT u7.1,dN t37] 31,.row y8 (List.map zl u7.2) 3 60],69⟩) (fun _ h=>h) ?_ ?_;rotate_left
  ·rintro _ rfl;show T X _ _ _;refine T.region ?_;iterate 3 refine aA rfl rfl ?_
   refine TL.nil ?_;obtain rfl:=osi q31;exact⟨m29,Nat.lt_succ_self _,_,Gst.only [2,3,4,5,10] Z,(w64 (s27.1-1),t37),Z,i32⟩
  rcases z9 ht37 with ⟨c38,ht37⟩|⟨c38,ht37⟩
  ·refine ze Z (zQ (beq_iff_eq.2 c38)) ?_;refine T.skip ?_;obtain rfl:=osi ht37;exact⟨_,Gst.only [2,3,4,5,10] Z,Z⟩
  refine zf Z (zR (beq_eq_false_iff_ne.2 c38)) ?_;refine T.region ?_;iterate 2 refine aA rfl rfl ?_
  refine z6 (zp wF hx36 Z Z Z Z Z) Z ?_;iterate 3 refine aA rfl rfl ?_
  refine zv (OpR.store 1 Z Z Z Z Z Z Z Z) ?_;refine TL.nil ?_;obtain rfl:=osi ht37;exact⟨_,Gst.only [2,3,4,5,10] Z,Z⟩
 refine T.block ?_;obtain⟨n11,n16⟩:=zy ht6;refine T.loop (fun n S'=>∃ S'',Gst S' S''∧∃ y9:Value,∃ s10:Int × Bool × (List ref08_Row),S''=⟨[(24,(dN s10.1)),(23,(dN (x4.length:Int))),(22,.sl 2 (List.map wF x4)),(5,.sl 2 (List.map wF x4)),(4,(dP (blk p2))),(3,(dN 0)),(2,(dP (blk p1))),(0,.val (.string (bs a0)))],[.var (blk p1) [.val (.slice none 0 0),dT false,dN 0] 31,.var (blk p2) [.val y9,dT s10.2.1,dN 2] 31,.row y9 (List.map zl s10.2.2) 3 60],69⟩∧wo (yZ.l1 a0 x4) n s10=some t6) n11 ?_ ?_
 ·exact⟨_,Gst.trans (Gst.only [0,2,3,4,5,22,23,24] Z) (ye (ow:=[.var (blk p1) [.val (.slice none 0 0),dT false,dN 0] 31,.var (blk p2) [.val (.slice none 0 0),dT false,dN 2] 31]) 3 60 Z),(.slice none 0 0),(0,false,[]),Z,n16⟩
 rintro n11 _ ⟨_,g,y9,s10,rfl,i15⟩;refine T.ghost g ?_;obtain⟨m12,q13,rfl,q14,i15⟩:=zz i15;unfold yZ.l1 at q14;refine aS ?_;refine aA Z Z ?_;refine aN Z ?_;refine T.seq ?_;rcases z9 q14 with ⟨c18,q14⟩|⟨c18,q14⟩;rotate_left
 ·refine ze Z (eF c18) ?_;refine T.exit ?_;obtain rfl:=osi q14;obtain rfl:_=_:=i15;exact⟨_,Gst.only [2,3,4,5] Z,_,Z,y9,Z⟩
 refine zf Z (eT c18) ?_;refine aK Z ?_;refine T.seq ?_;refine T.block ?_;refine aS ?_;obtain⟨x19,hx19,q14⟩:=bS q14;refine z6 (zp wF hx19 Z Z Z Z Z) Z ?_;refine aA Z Z ?_;refine TL.op (OpR.alloc Z Z (fun _=>Z)) Z (fun p20=>?_);refine zv (OpR.store 3 Z Z Z Z Z Z Z Z) ?_;refine aN Z ?_;refine aS ?_;refine aA Z Z ?_;refine z6 (z7 3 Z Z Z Z) Z ?_;obtain⟨x21,hx21,q14⟩:=bS q14;refine z6 (zh fn134 (ref08_Load_c hx21) Z) Z ?_;iterate 3 refine aA rfl rfl ?_
 refine TL.op (OpR.alloc Z Z (fun _=>Z)) Z (fun p22=>?_);refine zv (OpR.store 4 Z Z Z Z Z Z Z Z) ?_;refine aA Z Z ?_;refine aN Z ?_;refine T.seq ?_;refine aS ?_;iterate 2 refine aA rfl rfl ?_
 refine aN Z ?_;rcases z9 q14 with ⟨c23,q14⟩|⟨c23,q14⟩;rotate_left
 ·refine zf Z (zR (beq_eq_false_iff_ne.2 c23)) ?_;refine aS ?_;refine z6 (OpR.build Z Z Z Z Z) Z ?_;refine aA Z Z ?_;refine zv (OpR.store 0 Z Z Z Z Z Z Z Z) ?_;refine aA Z Z ?_;refine aN Z ?_;refine T.ret ?_;obtain rfl:=osi q14;obtain rfl:_=_:=i15;obtain rfl:=osi h0;exact zE (ks:=[]) (Gst.trans (Gst.only [2,3] Z) (Gst.trans (Gst.denil (ReS.cons Re.refl (ReS.cons Re.refl ReS.nil)) (ReO.var (ReL.cons (Re.base .nil) (ReL.cons Re.refl (ReL.cons Re.refl ReL.nil))) (ReO.same (ReO.same (ReO.same (ReO.same ReO.nil)))))) (Gst.pick [0] Z Z))) undef (cV 0 Z Z Z Z (cT Z ResL.nil)) Z Z Z Z
 refine ze Z (zQ (beq_iff_eq.2 c23)) ?_;refine aK Z ?_;refine aS ?_;refine aA Z Z ?_;refine z6 (z7 1 Z Z Z Z) Z ?_;refine z6 (z7 4 Z Z Z Z) Z ?_;refine z6 (yN Z Z Z Z Z Z Z) Z ?_;obtain⟨x24,hx24,q14⟩:=bS q14;refine TL.op (zM (m:=[x21.1]) zl 2 hx24 Z Z Z Z Z Z Z Z Z (fun _=>Z)) Z (fun v25=>?_);refine aA Z Z ?_;refine zv (OpR.store 1 Z Z Z Z Z Z Z Z) ?_;refine aN Z ?_;refine T.region ?_;refine aA Z Z ?_;refine z6 (z7 3 Z Z Z Z) Z ?_;iterate 2 refine aA rfl rfl ?_
 refine zv (OpR.store 1 Z Z Z Z Z Z Z Z) ?_;refine aN Z ?_;refine T.region ?_;iterate 2 refine aA rfl rfl ?_
 refine TL.nil ?_;obtain rfl:=osi q14;exact⟨m12,Nat.lt_succ_self _,_,gP [0,2,3,4,5,22,23,24] [0,1,2] Z Z Z,v25,(w64 (s10.1+1),(!(x19.fEnd==0)),x24),Z,i15⟩
noncomputable def vG (a0:List UInt8):Option ((grid_Grid × ref11_Grid × Bool × (List UInt8)) ⊕ (grid_Grid × ref11_Grid)):=
 bnd (xB a0) fun x3=>
 match x3 with
| .inl x3=>
 bnd (yZ a0) fun x6=>
 bnd (if x3.2.1=0 then
 some ((x6.2==0),x3.1.fRows.fRoot,x3.1.fTail,x3.1.fEnd,x6.1.fRows,x6.1.fTail,x6.1.fEnd)
else
 some (false,x3.1.fRows.fRoot,x3.1.fTail,x3.1.fEnd,x6.1.fRows,x6.1.fTail,x6.1.fEnd):Option (Bool × (Option NP) × Bool × Int × (List ref08_Row) × Bool × Int)) fun t8=>
 some (Sum.inl ((⟨(⟨t8.2.1⟩:tTr),t8.2.2.1,t8.2.2.2.1⟩:grid_Grid),(⟨t8.2.2.2.2.1,t8.2.2.2.2.2.1,t8.2.2.2.2.2.2⟩:ref11_Grid),t8.1,x3.2.2))
| .inr x3=>
 bnd (yZ a0) fun x12=>
 some (Sum.inr (x3.1,x12.1))
theorem pK {a0:List UInt8} {res:(grid_Grid × ref11_Grid × Bool × (List UInt8)) ⊕ (grid_Grid × ref11_Grid)} (h0:vG a0=some res):zo X 14 [.val (.string (bs a0))] [] (fun x=>(match res with | .inl res=>.tup [.agg [(eOP res.1.fRows.fRoot),dT res.1.fTail,dN res.1.fEnd],dP (blk (vn x 0)),.agg [.sl 3 (List.map zl res.2.1.fRows),dT res.2.1.fTail,dN res.2.1.fEnd],dT res.2.2.1] | .inr res=>.tup [.agg [(eOP res.1.fRows.fRoot),dT res.1.fTail,dN res.1.fEnd],dQ,.agg [.sl 3 (List.map zl res.2.fRows),dT res.2.fTail,dN res.2.fEnd],dT false])) (fun x=>(match res with | .inl res=>[.var (blk (vn x 0)) [.val (vn x 1)] 264,.row (vn x 1) (lB res.2.2.2) 1 5] | .inr res=>[])):=by
 unfold vG at h0;refine zb (X:=X) Z Tryz.func14 Z Z Tryz.ntmps14 Z Z ?_;refine aS ?_;refine TL.op (OpR.alloc Z Z (fun _=>Z)) Z (fun p1=>?_);refine aA Z Z ?_;refine TL.op (OpR.alloc Z Z (fun _=>Z)) Z (fun p2=>?_);refine aA Z Z ?_;refine aN Z ?_;refine aS ?_;refine aA Z Z ?_;refine z6 (OpR.toBytesM Z Z Z Z Z Z Z) Z ?_;obtain⟨x3,hx3,h0⟩:=bS h0;rcases x3 with x3|x3;rotate_left
 ·dsimp only at h0;refine z6 (zh fn67 (pL hx3) Z) Z ?_;iterate 4 refine aA rfl rfl ?_
  refine TL.op (OpR.alloc Z Z (fun _=>Z)) Z (fun p11=>?_);refine zv (OpR.store 2 Z Z Z Z Z Z Z Z) ?_;iterate 2 refine aA rfl rfl ?_
  refine aN Z ?_;refine aS ?_;refine aA Z Z ?_;obtain⟨x12,hx12,h0⟩:=bS h0;refine z6 (zh fn68 (ref11_Load_c hx12) Z) Z ?_;iterate 3 refine aA rfl rfl ?_
  refine TL.op (OpR.alloc Z Z (fun _=>Z)) Z (fun p13=>?_);refine zv (OpR.store 3 Z Z Z Z Z Z Z Z) ?_;refine aA Z Z ?_;refine aN Z ?_;refine T.seq ?_;refine yA zV (fun env14=>[.agg [(eOP x3.1.fRows.fRoot),dT x3.1.fTail,dN x3.1.fEnd],dQ,.agg [.sl 3 (List.map zl x12.1.fRows),dT x12.1.fTail,dN x12.1.fEnd],dQ,dT false,dT false,.tup [],.tup [],dT false,dT false,.tup [],.tup [],dT false,.dead,dQ,.dead,dT false]) (fun D env14=>[(bif D 13 then .var (blk p1) [(eOP x3.1.fRows.fRoot),dT x3.1.fTail,dN x3.1.fEnd] 27 else .var (blk p1) [(eOP none),dT false,dN 0] 27),(bif D 15 then .var (blk p2) [.sl 3 (List.map zl x12.1.fRows),dT x12.1.fTail,dN x12.1.fEnd] 31 else .var (blk p2) [.val (.slice none 0 0),dT false,dN 0] 31),.var (blk p11) [(eOP x3.1.fRows.fRoot),dT x3.1.fTail,dN x3.1.fEnd] 27,.var (blk p13) [.sl 3 (List.map zl x12.1.fRows),dT x12.1.fTail,dN x12.1.fEnd] 31]) [0,0,0,0,8,24,56,120,248,504,1016,2040,4088,1017,9211,25599,65535] [2,3,4,5] _ (by decide +kernel) (by decide +kernel) (fun _=>Z) (fun _=>Z) ?_ (fun _=>Z) (fun _=>Z) ?_;rotate_left
  ·intro env14;show T X _ _ _;refine T.ret ?_;obtain rfl:=osi h0;exact rP [] [2,3,4,5] [0,1] Z Z Z undef (cV 0 Z Z Z Z (cT Z (cV 1 Z Z Z Z (cT Z ResL.nil)))) Z Z Z Z
  refine oT (.agg [(eOP x3.1.fRows.fRoot),dT x3.1.fTail,dN x3.1.fEnd]) (fun _ _=>z7 2 Z Z Z Z) ?_;refine aC ?_;refine oT (.agg [.sl 3 (List.map zl x12.1.fRows),dT x12.1.fTail,dN x12.1.fEnd]) (fun _ _=>z7 3 Z Z Z Z) ?_;refine aC ?_;refine oT ((dT false)) (fun _ _=>qn (A:=none) Z Z Z) ?_;refine aC ?_;refine zi false (fun D env14 hA=>OpS.no (Want.bool Z Z Z Z Z) Z Z) (fun _ _ _ _ _ _ _=>Z) ?_;refine zi false (fun D env14 hA=>OpS.no (Want.bool Z Z Z Z Z) Z Z) (fun _ _ _ _ _ _ _=>Z) ?_;refine oT ((dT false)) (fun _ _=>zx Z Z Z) ?_;refine aC ?_;refine zi false (fun D env14 hA=>OpS.no (Want.bool Z Z Z Z Z) Z Z) (fun _ _ _ _ _ _ _=>Z) ?_;refine zi false (fun D env14 hA=>OpS.no (Want.bool Z Z Z Z Z) Z Z) (fun _ _ _ _ _ _ _=>Z) ?_;refine oT ((dT false)) (fun _ _=>zx Z Z Z) ?_;refine zi true ?_ (fun _ _ _ _ _ _ _=>Z) ?_
  ·intro D env14 hA;have e15:D 15=false:=hA.no 15 _ rfl rfl;exact zK [(15,false),(13,false)] ⟨e15,hA.me,trivial⟩ (Want.plain Z) (OpR.store 0 Z Z Z Z Z Z Z Z) (fun x=>Z) (fun x=>Z)
  refine aC ?_;refine zi true ?_ (fun _ _ _ _ _ _ _=>Z) ?_
  ·intro D env14 hA;have e13:D 13=true:=hA.yes 13 _ rfl rfl;exact zK [(13,true),(15,false)] ⟨e13,hA.me,trivial⟩ (Want.plain Z) (OpR.store 1 Z Z Z Z Z Z Z Z) (fun x=>Z) (fun x=>Z)
  refine aC ?_;exact trivial
 dsimp only at h0;refine TL.op (OpR.call [] fn67 (pM hx3) Z Z Z (fun _=>Z)) Z (fun w4=>?_);iterate 4 refine aA rfl rfl ?_
 refine TL.op (OpR.alloc Z Z (fun _=>Z)) Z (fun p5=>?_);refine zv (OpR.store 4 Z Z Z Z Z Z Z Z) ?_;iterate 2 refine aA rfl rfl ?_
 refine aN Z ?_;refine aS ?_;refine aA Z Z ?_;obtain⟨x6,hx6,h0⟩:=bS h0;refine z6 (zh fn68 (ref11_Load_c hx6) Z) Z ?_;iterate 3 refine aA rfl rfl ?_
 refine TL.op (OpR.alloc Z Z (fun _=>Z)) Z (fun p7=>?_);refine zv (OpR.store 5 Z Z Z Z Z Z Z Z) ?_;refine aA Z Z ?_;refine aN Z ?_;refine T.seq ?_;obtain⟨t8,ht8,h0⟩:=bS h0;refine zA (fun S'=>S'=⟨[(5,(dT t8.1)),(4,(dP (blk p2))),(3,(dP (blk (vn w4 0)))),(2,(dP (blk p1)))],[.var (blk p1) [(eOP t8.2.1),dT t8.2.2.1,dN t8.2.2.2.1] 27,.var (blk (vn w4 0)) [.val (vn w4 1)] 264,.var (blk p2) [.sl 3 (List.map zl t8.2.2.2.2.1),dT t8.2.2.2.2.2.1,dN t8.2.2.2.2.2.2] 31,.row (vn w4 1) (lB x3.2.2) 1 5],36⟩) (fun _ h=>h) ?_ ?_;rotate_left
 ·rintro _ rfl;show T X _ _ _;refine T.ret ?_;obtain rfl:=osi h0;exact rO [1,3] [2,3,4,5] Z (.tuple #[(vn w4 0),(vn w4 1)]) (cV 0 Z Z Z Z (cT Z (cV 2 Z Z Z Z (cT Z ResL.nil)))) Z Z Z Z
 rcases z9 ht8 with ⟨c10,ht8⟩|⟨c10,ht8⟩;rotate_left
 ·refine yA zV (fun env9=>[.agg [(eOP x3.1.fRows.fRoot),dT x3.1.fTail,dN x3.1.fEnd],dP (blk (vn w4 0)),.agg [.sl 3 (List.map zl x6.1.fRows),dT x6.1.fTail,dN x6.1.fEnd],dP (blk (vn w4 0)),dT true,dT true,dN x3.2.1,dT (x3.2.1==0),dT (x3.2.1==0),dT (x3.2.1==0),.tup [],.tup [],dT false,.dead,dP (blk (vn w4 0)),.dead,dT false]) (fun D env9=>[(bif D 13 then .var (blk p1) [(eOP x3.1.fRows.fRoot),dT x3.1.fTail,dN x3.1.fEnd] 27 else .var (blk p1) [(eOP none),dT false,dN 0] 27),(bif D 15 then .var (blk p2) [.sl 3 (List.map zl x6.1.fRows),dT x6.1.fTail,dN x6.1.fEnd] 31 else .var (blk p2) [.val (.slice none 0 0),dT false,dN 0] 31),.var (blk (vn w4 0)) [.val (vn w4 1)] 264,.row (vn w4 1) (lB x3.2.2) 1 5,.var (blk p5) [(eOP x3.1.fRows.fRoot),dT x3.1.fTail,dN x3.1.fEnd] 27,.var (blk p7) [.sl 3 (List.map zl x6.1.fRows),dT x6.1.fTail,dN x6.1.fEnd] 31]) [0,0,0,0,8,24,56,120,248,504,1016,2040,4088,1017,9211,25599,65535] [2,3,4,5] _ (by decide +kernel) (by decide +kernel) (fun _=>Z) (fun _=>Z) ?_ (fun _=>Z) (fun _=>Z) ?_;rotate_left
  ·intro env9;obtain rfl:=osi ht8;exact⟨_,gP [2,3,4,5] [0,2,1,3] Z Z Z,Z⟩
  refine oT (.agg [(eOP x3.1.fRows.fRoot),dT x3.1.fTail,dN x3.1.fEnd]) (fun _ _=>z7 4 Z Z Z Z) ?_;refine aC ?_;refine oT (.agg [.sl 3 (List.map zl x6.1.fRows),dT x6.1.fTail,dN x6.1.fEnd]) (fun _ _=>z7 5 Z Z Z Z) ?_;refine aC ?_;refine oT ((dT true)) (fun _ _=>qn (A:=some ⟨(blk (vn w4 0)),0,none⟩) Z Z Z) ?_;refine aC ?_;refine oS (d:=(dN x3.2.1)) (fun _=>Want.bool Z Z Z Z Z) (fun _=>Z) (fun _ _ _=>Z) (fun _ _=>OpR.pure Z) (fun _ _ _ _ _ _ _=>Z) ?_;refine oS (d:=(dT (x3.2.1==0))) (fun _=>Want.bool Z Z Z Z Z) (fun _=>Z) (fun _ _ _=>Z) (fun _ _=>OpR.pure Z) (fun _ _ _ _ _ _ _=>Z) ?_;refine oT ((dT (x3.2.1==0))) (fun _ _=>zt Z Z Z) ?_;refine aC ?_;refine zi false (fun D env9 hA=>OpS.no (Want.bool rfl rfl rfl rfl (by rw[(beq_eq_false_iff_ne.2 c10)]; rfl)) rfl rfl) (fun _ _ _ _ _ _ _=>rfl) ?_;refine zi false (fun D env9 hA=>OpS.no (Want.bool rfl rfl rfl rfl (by rw[(beq_eq_false_iff_ne.2 c10)]; rfl)) rfl rfl) (fun _ _ _ _ _ _ _=>rfl) ?_;refine oT ((dT false)) (fun _ _=>zx Z (beq_eq_false_iff_ne.2 c10) Z) ?_;refine zi true ?_ (fun _ _ _ _ _ _ _=>Z) ?_
  ·intro D env9 hA;have e15:D 15=false:=hA.no 15 _ rfl rfl;exact zK [(15,false),(13,false)] ⟨e15,hA.me,trivial⟩ (Want.plain Z) (OpR.store 0 Z Z Z Z Z Z Z Z) (fun x=>Z) (fun x=>Z)
  refine aC ?_;refine zi true ?_ (fun _ _ _ _ _ _ _=>Z) ?_
  ·intro D env9 hA;have e13:D 13=true:=hA.yes 13 _ rfl rfl;exact zK [(13,true),(15,false)] ⟨e13,hA.me,trivial⟩ (Want.plain Z) (OpR.store 1 Z Z Z Z Z Z Z Z) (fun x=>Z) (fun x=>Z)
  refine aC ?_;exact trivial
 refine yA zV (fun env9=>[.agg [(eOP x3.1.fRows.fRoot),dT x3.1.fTail,dN x3.1.fEnd],dP (blk (vn w4 0)),.agg [.sl 3 (List.map zl x6.1.fRows),dT x6.1.fTail,dN x6.1.fEnd],dP (blk (vn w4 0)),dT true,dT true,dN x3.2.1,dT (x3.2.1==0),dT (x3.2.1==0),dT (x3.2.1==0),dN x6.2,dT (x6.2==0),dT (x6.2==0),.dead,dP (blk (vn w4 0)),.dead,dT (x6.2==0)]) (fun D env9=>[(bif D 13 then .var (blk p1) [(eOP x3.1.fRows.fRoot),dT x3.1.fTail,dN x3.1.fEnd] 27 else .var (blk p1) [(eOP none),dT false,dN 0] 27),(bif D 15 then .var (blk p2) [.sl 3 (List.map zl x6.1.fRows),dT x6.1.fTail,dN x6.1.fEnd] 31 else .var (blk p2) [.val (.slice none 0 0),dT false,dN 0] 31),.var (blk (vn w4 0)) [.val (vn w4 1)] 264,.row (vn w4 1) (lB x3.2.2) 1 5,.var (blk p5) [(eOP x3.1.fRows.fRoot),dT x3.1.fTail,dN x3.1.fEnd] 27,.var (blk p7) [.sl 3 (List.map zl x6.1.fRows),dT x6.1.fTail,dN x6.1.fEnd] 31]) [0,0,0,0,8,24,56,120,248,504,1016,2040,4088,1017,9211,25599,65535] [2,3,4,5] _ (by decide +kernel) (by decide +kernel) (fun _=>Z) (fun _=>Z) ?_ (fun _=>Z) (fun _=>Z) ?_;rotate_left
 ·intro env9;obtain rfl:=osi ht8;exact⟨_,gP [2,3,4,5] [0,2,1,3] Z Z Z,Z⟩
 refine oT (.agg [(eOP x3.1.fRows.fRoot),dT x3.1.fTail,dN x3.1.fEnd]) (fun _ _=>z7 4 Z Z Z Z) ?_;refine aC ?_;refine oT (.agg [.sl 3 (List.map zl x6.1.fRows),dT x6.1.fTail,dN x6.1.fEnd]) (fun _ _=>z7 5 Z Z Z Z) ?_;refine aC ?_;refine oT ((dT true)) (fun _ _=>qn (A:=some ⟨(blk (vn w4 0)),0,none⟩) Z Z Z) ?_;refine aC ?_;refine oS (d:=(dN x3.2.1)) (fun _=>Want.bool Z Z Z Z Z) (fun _=>Z) (fun _ _ _=>Z) (fun _ _=>OpR.pure Z) (fun _ _ _ _ _ _ _=>Z) ?_;refine oS (d:=(dT (x3.2.1==0))) (fun _=>Want.bool Z Z Z Z Z) (fun _=>Z) (fun _ _ _=>Z) (fun _ _=>OpR.pure Z) (fun _ _ _ _ _ _ _=>Z) ?_;refine oT ((dT (x3.2.1==0))) (fun _ _=>zt Z Z Z) ?_;refine aC ?_;refine oS (d:=(dN x6.2)) (fun _=>Want.bool rfl rfl rfl rfl (by rw[(beq_iff_eq.2 c10)]; rfl)) (fun _=>rfl) (fun _ _ _=>rfl) (fun _ _=>OpR.pure rfl) (fun _ _ _ _ _ _ _=>rfl) ?_;refine oS (d:=(dT (x6.2==0))) (fun _=>Want.bool rfl rfl rfl rfl (by rw[(beq_iff_eq.2 c10)]; rfl)) (fun _=>rfl) (fun _ _ _=>rfl) (fun _ _=>OpR.pure rfl) (fun _ _ _ _ _ _ _=>rfl) ?_;refine oT ((dT (x6.2==0))) (fun _ _=>zt Z (beq_iff_eq.2 c10) Z) ?_;refine zi true ?_ (fun _ _ _ _ _ _ _=>Z) ?_
 ·intro D env9 hA;have e15:D 15=false:=hA.no 15 _ rfl rfl;exact zK [(15,false),(13,false)] ⟨e15,hA.me,trivial⟩ (Want.plain Z) (OpR.store 0 Z Z Z Z Z Z Z Z) (fun x=>Z) (fun x=>Z)
 refine aC ?_;refine zi true ?_ (fun _ _ _ _ _ _ _=>Z) ?_
 ·intro D env9 hA;have e13:D 13=true:=hA.yes 13 _ rfl rfl;exact zK [(13,true),(15,false)] ⟨e13,hA.me,trivial⟩ (Want.plain Z) (OpR.store 1 Z Z Z Z Z Z Z Z) (fun x=>Z) (fun x=>Z)
 refine aC ?_;exact trivial
theorem law11_Begun_cx1 {a0:List UInt8} {res:grid_Grid × ref11_Grid × Bool × (List UInt8)} (h0:vG a0=some (Sum.inl res)):zo X 14 [.val (.string (bs a0))] [] (fun x=>.tup [.agg [(eOP res.1.fRows.fRoot),dT res.1.fTail,dN res.1.fEnd],dP (blk (vn x 0)),.agg [.sl 3 (List.map zl res.2.1.fRows),dT res.2.1.fTail,dN res.2.1.fEnd],dT res.2.2.1]) (fun x=>[.var (blk (vn x 0)) [.val (vn x 1)] 264,.row (vn x 1) (lB res.2.2.2) 1 5]):=pK h0
theorem law11_Begun_cx2 {a0:List UInt8} {res:grid_Grid × ref11_Grid} (h0:vG a0=some (Sum.inr res)):zo X 14 [.val (.string (bs a0))] [] (fun x=>.tup [.agg [(eOP res.1.fRows.fRoot),dT res.1.fTail,dN res.1.fEnd],dQ,.agg [.sl 3 (List.map zl res.2.fRows),dT res.2.fTail,dN res.2.fEnd],dT false]) (fun x=>[]):=pK h0
noncomputable def yE (a0:tTr):Option Int:=
 bnd (some a0.fRoot) fun q1=>match q1 with
| none=>
 some 0
| some z2=>
 bnd (vi z2) fun x3=>
 some x3.fN
theorem xA {a0:tTr} {res:Int} (h0:yE a0=some res):zo X 79 [.agg [(eOP a0.fRoot)]] [] (fun x=>(dN res)) (fun x=>[]):=by
 unfold yE at h0;refine zb (X:=X) Z Tryz.func79 Z Z Tryz.ntmps79 Z Z ?_;refine aS ?_;refine z6 (zD Z Z) Z ?_;refine aA Z Z ?_;refine aN Z ?_;refine T.seq ?_;refine aS ?_;refine aA Z Z ?_;obtain⟨q1,hq1,h0⟩:=bS h0;rcases q1 with _|z2
 ·dsimp only at h0;refine z6 (zk (OpR.pure Z) (congrArg eOP (osi hq1))) Z ?_;refine z6 (qL (A:=none) Z Z Z) Z ?_;refine aN Z ?_;refine zf Z Z ?_;refine aS ?_;refine aA Z Z ?_;refine aN Z ?_;refine T.ret ?_;obtain rfl:=osi h0;exact rO [] [2] Z undef (cT Z ResL.nil) Z Z Z Z
 dsimp only at h0;obtain⟨x3,hx3,h0⟩:=bS h0;rw[xf hx3] at hq1;refine z6 (zk (OpR.pure Z) (congrArg eOP (osi hq1))) Z ?_;refine z6 (OpR.nodNil Z Z Z) Z ?_;refine aN Z ?_;refine ze Z Z ?_;refine aK Z ?_;refine aS ?_;refine aA Z Z ?_;refine z6 (zk (OpR.pure Z) (congrArg eOP (osi hq1))) Z ?_;iterate 4 refine aA rfl rfl ?_
 refine aN Z ?_;refine T.ret ?_;obtain rfl:=osi h0;exact rO [] [2] Z undef (cT Z ResL.nil) Z Z Z Z
noncomputable def yK (a0:grid_Grid):Option Int:=
 bnd (yE a0.fRows) fun x1=>
 some x1
theorem yQ {a0:grid_Grid} {res:Int} (h0:yK a0=some res):zo X 22 [.agg [(eOP a0.fRows.fRoot),dT a0.fTail,dN a0.fEnd]] [] (fun x=>(dN res)) (fun x=>[]):=by
 unfold yK at h0;refine zb (X:=X) Z Tryz.func22 Z Z Tryz.ntmps22 Z Z ?_;refine aS ?_;refine z6 (zD Z Z) Z ?_;refine aA Z Z ?_;refine aN Z ?_;refine aS ?_;iterate 2 refine aA rfl rfl ?_
 obtain⟨x1,hx1,h0⟩:=bS h0;refine z6 (zh fn79 (xA hx1) Z) Z ?_;refine aA Z Z ?_;refine aN Z ?_;refine T.ret ?_;obtain rfl:=osi h0;exact rO [] [2] Z undef (cT Z ResL.nil) Z Z Z Z
noncomputable def xO (a0:tTr) (a1:Int):Option Bool:=
 bnd (if a1≥0 then
 bnd (yE a0) fun x3=>
 some (decide (a1<x3))
else
 some false:Option Bool) fun t1=>
 some t1
theorem td {a0:tTr} {a1:Int} {res:Bool} (h0:xO a0 a1=some res):zo X 151 [.agg [(eOP a0.fRoot)],dN a1] [] (fun x=>(dT res)) (fun x=>[]):=by
 unfold xO at h0;refine zb (X:=X) Z Tryz.func151 Z Z Tryz.ntmps151 Z Z ?_;refine aS ?_;refine z6 (zD Z Z) Z ?_;refine aA Z Z ?_;refine aN Z ?_;refine T.seq ?_;obtain⟨t1,ht1,h0⟩:=bS h0;refine zA (fun S'=>S'=⟨[(4,(dT t1))],[],13⟩) (fun _ h=>h) ?_ ?_;rotate_left
 ·rintro _ rfl;show T X _ _ _;refine T.ret ?_;obtain rfl:=osi h0;exact rO [] [4] Z undef (cT Z ResL.nil) Z Z Z Z
 refine T.region ?_;iterate 3 refine aA rfl rfl ?_
 rcases z9 ht1 with ⟨c2,ht1⟩|⟨c2,ht1⟩;rotate_left
 ·refine TL.off Z Z Z Z (eF c2) Z Z ?_;refine TL.off Z Z Z Z (eF c2) Z Z ?_;refine TL.off Z Z Z Z (eF c2) Z Z ?_;refine TL.off Z Z Z Z (eF c2) Z Z ?_;refine z6 (zx Z (eF c2) Z) Z ?_;refine aA Z Z ?_;refine TL.nil ?_;obtain rfl:=osi ht1;exact⟨_,Gst.only [4] Z,Z⟩
 refine TL.on Z Z Z Z (eT c2) ?_;refine aA Z Z ?_;refine TL.on Z Z Z Z (eT c2) ?_;refine aA Z Z ?_;refine TL.on Z Z Z Z (eT c2) ?_;obtain⟨x3,hx3,ht1⟩:=bS ht1;refine z6 (zh fn79 (xA hx3) Z) Z ?_;refine TL.on Z Z Z Z (eT c2) ?_;refine aA Z Z ?_;refine z6 (zt Z (eT c2) Z) Z ?_;refine aA Z Z ?_;refine TL.nil ?_;obtain rfl:=osi ht1;exact⟨_,Gst.only [4] Z,Z⟩
noncomputable def xH (a0:List NP) (a1:List row_Row) (a2:Int):Option Bool:=
 some ((a0.length:Int)==0)
theorem uL {a0:List NP} {a1:List row_Row} {a2:Int} {res:Bool} (h0:xH a0 a1 a2=some res):zo X 152 [.nod [.sl 1 (List.map eNP a0),.sl 3 (List.map z8 a1),dN a2]] [] (fun x=>(dT res)) (fun x=>[]):=by
 unfold xH at h0;refine zb (X:=X) Z Tryz.func152 Z Z Tryz.ntmps152 Z Z ?_;refine aS ?_;refine aA Z Z ?_;refine aN Z ?_;refine aS ?_;iterate 4 refine aA rfl rfl ?_
 refine z6 (zk (OpR.pure Z) (xn (w9 _ _))) Z ?_;iterate 2 refine aA rfl rfl ?_
 refine aN Z ?_;refine T.ret ?_;obtain rfl:=osi h0;exact rO [] [2] Z undef (cT Z ResL.nil) Z Z Z Z
noncomputable def zZ.l1 (a0:List NP) (s2:Int × Int):Option (Lp (Int × Int) (Int × Int)):=
 bnd (if s2.2<(w64 ((a0.length:Int)-1)) then
 bnd (idx a0 s2.2) fun x12=>
 bnd (vi x12) fun x13=>
 some (decide (s2.1≥x13.fN))
else
 some false:Option Bool) fun t10=>
 if t10=true then
 bnd (idx a0 s2.2) fun x15=>
 bnd (vi x15) fun x16=>
 some (Lp.next (w64 (s2.1-x16.fN),w64 (s2.2+1)))
else
 some (Lp.done (s2.1,s2.2))
noncomputable def zZ (a0:List NP) (a1:List row_Row) (a2:Int) (a3:Int):Option (Int × Int):=
 bnd (loop (zZ.l1 a0) (a3,0):Option (Int × Int)) fun t1=>
 some (t1.2,t1.1)
theorem te {a0:List NP} {a1:List row_Row} {a2:Int} {a3:Int} {res:Int × Int} (h0:zZ a0 a1 a2 a3=some res):zo X 153 [.nod [.sl 1 (List.map eNP a0),.sl 3 (List.map z8 a1),dN a2],dN a3] [] (fun x=>.tup [dN res.1,dN res.2]) (fun x=>[]):=by
 unfold zZ at h0;refine zb (X:=X) Z Tryz.func153 Z Z Tryz.ntmps153 Z Z ?_;refine aS ?_;iterate 2 refine aA rfl rfl ?_
 refine aN Z ?_;refine aS ?_;refine aA Z Z ?_;refine aN Z ?_;refine T.seq ?_;obtain⟨t1,ht1,h0⟩:=bS h0;refine zA (fun S'=>S'=⟨[(6,(dN t1.2)),(5,(dN 0)),(4,(dN 0)),(1,(dN t1.1))],[],45⟩) (fun _ h=>h) ?_ ?_;rotate_left
 ·rintro _ rfl;show T X _ _ _;refine aS ?_;iterate 4 refine aA rfl rfl ?_
  refine aN Z ?_;refine T.ret ?_;obtain rfl:=osi h0;exact rO [] [4,5] Z undef (cT Z (cT Z ResL.nil)) Z Z Z Z
 refine T.block ?_;obtain⟨n3,n8⟩:=zy ht1;refine T.loop (fun n S'=>∃ S'',Gst S' S''∧∃ s2:Int × Int,S''=⟨[(6,(dN s2.2)),(5,(dN 0)),(4,(dN 0)),(1,(dN s2.1)),(0,.nod [.sl 1 (List.map eNP a0),.sl 3 (List.map z8 a1),dN a2])],[],45⟩∧wo (zZ.l1 a0) n s2=some t1) n3 ?_ ?_
 ·exact⟨_,Gst.only [0,1,4,5,6] Z,(a3,0),Z,n8⟩
 rintro n3 _ ⟨_,g,s2,rfl,i7⟩;refine T.ghost g ?_;obtain⟨m4,q5,rfl,q6,i7⟩:=zz i7;unfold zZ.l1 at q6;refine T.seq ?_;refine T.seq ?_;obtain⟨t10,ht10,q6⟩:=bS q6;refine zA (fun S'=>S'=⟨[(28,(dT t10)),(6,(dN s2.2)),(5,(dN 0)),(4,(dN 0)),(1,(dN s2.1)),(0,.nod [.sl 1 (List.map eNP a0),.sl 3 (List.map z8 a1),dN a2])],[],45⟩) (fun _ h=>h) ?_ ?_;rotate_left
 ·rintro _ rfl;show T X _ _ _;rcases z9 q6 with ⟨c14,q6⟩|⟨c14,q6⟩;rotate_left
  ·refine ze Z (eN c14) ?_;refine T.exit ?_;obtain rfl:=osi q6;obtain rfl:_=_:=i7;exact⟨_,Gst.only [1,4,5,6] Z,Z⟩
  refine zf Z (c14) ?_;refine aK Z ?_;refine T.block ?_;refine aS ?_;iterate 6 refine aA rfl rfl ?_
  obtain⟨x15,hx15,q6⟩:=bS q6;obtain⟨x16,hx16,q6⟩:=bS q6;rw[xf hx16] at hx15;refine z6 (zp eNP hx15 Z Z Z Z Z) Z ?_;iterate 6 refine aA rfl rfl ?_
  refine aN Z ?_;refine T.region ?_;iterate 3 refine aA rfl rfl ?_
  refine TL.nil ?_;obtain rfl:=osi q6;exact⟨m4,Nat.lt_succ_self _,_,Gst.only [0,1,4,5,6] Z,(w64 (s2.1-x16.fN),w64 (s2.2+1)),Z,i7⟩
 refine T.region ?_;iterate 5 refine aA rfl rfl ?_
 refine z6 (zk (OpR.pure Z) (xn (w9 _ _))) Z ?_;iterate 3 refine aA rfl rfl ?_
 rcases z9 ht10 with ⟨c11,ht10⟩|⟨c11,ht10⟩;rotate_left
 ·refine TL.off Z Z Z Z (eF c11) Z Z ?_;refine TL.off Z Z Z Z (eF c11) Z Z ?_;refine TL.off Z Z Z Z (eF c11) Z Z ?_;refine TL.off Z Z Z Z (eF c11) Z Z ?_;refine TL.off Z Z Z Z (eF c11) Z Z ?_;refine TL.off Z Z Z Z (eF c11) Z Z ?_;refine TL.off Z Z Z Z (eF c11) Z Z ?_;refine TL.off Z Z Z Z (eF c11) Z Z ?_;refine TL.off Z Z Z Z (eF c11) Z Z ?_;refine TL.off Z Z Z Z (eF c11) Z Z ?_;refine TL.off Z Z Z Z (eF c11) Z Z ?_;refine TL.off Z Z Z Z (eF c11) Z Z ?_;refine z6 (zx Z (eF c11) Z) Z ?_;refine TL.nil ?_;obtain rfl:=osi ht10;exact⟨_,Gst.only [0,1,4,5,6,28] Z,Z⟩
 refine TL.on Z Z Z Z (eT c11) ?_;refine aA Z Z ?_;refine TL.on Z Z Z Z (eT c11) ?_;refine aA Z Z ?_;refine TL.on Z Z Z Z (eT c11) ?_;refine aA Z Z ?_;refine TL.on Z Z Z Z (eT c11) ?_;refine aA Z Z ?_;refine TL.on Z Z Z Z (eT c11) ?_;refine aA Z Z ?_;refine TL.on Z Z Z Z (eT c11) ?_;refine aA Z Z ?_;refine TL.on Z Z Z Z (eT c11) ?_;obtain⟨x12,hx12,ht10⟩:=bS ht10;obtain⟨x13,hx13,ht10⟩:=bS ht10;rw[xf hx13] at hx12;refine z6 (zp eNP hx12 Z Z Z Z Z) Z ?_;refine TL.on Z Z Z Z (eT c11) ?_;refine aA Z Z ?_;refine TL.on Z Z Z Z (eT c11) ?_;refine aA Z Z ?_;refine TL.on Z Z Z Z (eT c11) ?_;refine aA Z Z ?_;refine TL.on Z Z Z Z (eT c11) ?_;refine aA Z Z ?_;refine TL.on Z Z Z Z (eT c11) ?_;refine aA Z Z ?_;refine z6 (zt Z (eT c11) Z) Z ?_;refine TL.nil ?_;obtain rfl:=osi ht10;exact⟨_,Gst.only [0,1,4,5,6,28] Z,Z⟩
noncomputable def zY.l1 (s7:Unit):Option (Lp Unit (row_Row × Bool)):=
 none
noncomputable def zY.l2 (s17:Int × (List NP) × (List row_Row) × Int):Option (Lp (Int × (List NP) × (List row_Row) × Int) (Int × (List NP) × (List row_Row) × Int)):=
 bnd (xH s17.2.1 s17.2.2.1 s17.2.2.2) fun x25=>
 if x25=true then
 some (Lp.done (s17.1,s17.2.1,s17.2.2.1,s17.2.2.2))
else
 bnd (zZ s17.2.1 s17.2.2.1 s17.2.2.2 s17.1) fun x27=>
 bnd (idx s17.2.1 x27.1) fun x28=>
 bnd (vi x28) fun x29=>
 some (Lp.next (x27.2,x29.fKids,x29.fItems,x29.fN))
noncomputable def zY (a0:tTr) (a1:Int):Option (row_Row × Bool):=
 bnd (xO a0 a1) fun x2=>
 if x2=true then
 bnd (some a0.fRoot) fun q4=>match q4 with
| none=>
 loop zY.l1 ()
| some z5=>
 bnd (vi z5) fun x15=>
 bnd (loop zY.l2 (a1,x15.fKids,x15.fItems,x15.fN):Option (Int × (List NP) × (List row_Row) × Int)) fun t16=>
 bnd (idx t16.2.2.1 t16.1) fun x30=>
 some (x30,true)
else
 some ((⟨[],0,false⟩:row_Row),false)
theorem rV {a0:tTr} {a1:Int} {res:row_Row × Bool} (h0:zY a0 a1=some res):zo X 81 [.agg [(eOP a0.fRoot)],dN a1] [] (fun x=>.tup [.agg [.sl 5 (List.map zj res.1.fCells),dN res.1.fEnd,dT res.1.fHidden],dT res.2]) (fun x=>[]):=by
 unfold zY at h0;refine zb (X:=X) Z Tryz.func81 Z Z Tryz.ntmps81 Z Z ?_;refine aS ?_;refine z6 (zD Z Z) Z ?_;refine TL.op (OpR.alloc Z Z (fun _=>Z)) Z (fun p1=>?_);refine aA Z Z ?_;refine aN Z ?_;refine T.seq ?_;refine aS ?_;iterate 2 refine aA rfl rfl ?_
 obtain⟨x2,hx2,h0⟩:=bS h0;refine z6 (zh fn151 (td hx2) Z) Z ?_;refine aA Z Z ?_;refine aN Z ?_;rcases z9 h0 with ⟨c3,h0⟩|⟨c3,h0⟩;rotate_left
 ·refine zf Z (zR (eN c3)) ?_;refine aS ?_;refine TL.op (OpR.alloc Z Z (fun _=>Z)) Z (fun p31=>?_);refine aN Z ?_;refine aS ?_;refine z6 (z7 1 Z Z Z Z) Z ?_;refine zv (OpR.store 0 Z Z Z Z Z Z Z Z) ?_;refine aA Z Z ?_;refine aN Z ?_;refine T.ret ?_;obtain rfl:=osi h0;exact zE (ks:=[]) (Gst.trans (Gst.only [4,5] Z) (Gst.trans (Gst.denil (ReS.cons Re.refl (ReS.cons Re.refl ReS.nil)) (ReO.var (ReL.cons (Re.base .nil) (ReL.cons Re.refl (ReL.cons Re.refl ReL.nil))) (ReO.same ReO.nil))) (Gst.pick [0] Z Z))) undef (cV 0 Z Z Z Z (cT Z ResL.nil)) Z Z Z Z
 refine ze Z (zQ (c3)) ?_;refine aK Z ?_;refine aS ?_;refine aA Z Z ?_;obtain⟨q4,hq4,h0⟩:=bS h0;rcases q4 with _|z5
 ·dsimp only at h0;refine z6 (zk (OpR.pure Z) (congrArg eOP (osi hq4))) Z ?_;refine aA Z Z ?_;refine aN Z ?_;refine T.seq ?_;refine T.block ?_;obtain⟨n8,n13⟩:=zy h0;refine T.loop (fun n S'=>∃ S'',Gst S' S''∧∃ s7:Unit,S''=⟨[(7,dQ),(5,(dT false)),(4,(dP (blk p1))),(1,(dN a1))],[.var (blk p1) [.val (.slice none 0 0),dN 0,dT false] 49],41⟩∧wo zY.l1 n s7=some res) n8 ?_ ?_
  ·exact⟨_,Gst.only [1,4,5,7] Z,(),Z,n13⟩
  rintro n8 _ ⟨_,g,s7,rfl,i12⟩;refine T.ghost g ?_;obtain⟨m9,q10,rfl,q11,i12⟩:=zz i12;unfold zY.l1 at q11;refine T.seq ?_;refine aS ?_;refine aA Z Z ?_;exact (by cases q11)
 dsimp only at h0;obtain⟨x15,hx15,h0⟩:=bS h0;rw[xf hx15] at hq4;refine z6 (zk (OpR.pure Z) (congrArg eOP (osi hq4))) Z ?_;refine aA Z Z ?_;refine aN Z ?_;refine T.seq ?_;obtain⟨t16,ht16,h0⟩:=bS h0;refine zA (fun S'=>S'=⟨[(7,.nod [.sl 1 (List.map eNP t16.2.1),.sl 3 (List.map z8 t16.2.2.1),dN t16.2.2.2]),(5,(dT false)),(4,(dP (blk p1))),(1,(dN t16.1))],[.var (blk p1) [.val (.slice none 0 0),dN 0,dT false] 49],41⟩) (fun _ h=>h) ?_ ?_;rotate_left
 ·rintro _ rfl;show T X _ _ _;refine aS ?_;iterate 5 refine aA rfl rfl ?_
  obtain⟨x30,hx30,h0⟩:=bS h0;refine z6 (zp z8 hx30 Z Z Z Z Z) Z ?_;refine aA Z Z ?_;refine zv (OpR.store 0 Z Z Z Z Z Z Z Z) ?_;refine aA Z Z ?_;refine aN Z ?_;refine T.ret ?_;obtain rfl:=osi h0;exact rO [] [4,5] Z undef (cV 0 Z Z Z Z (cT Z ResL.nil)) Z Z Z Z
 refine T.block ?_;obtain⟨n18,n23⟩:=zy ht16;refine T.loop (fun n S'=>∃ S'',Gst S' S''∧∃ s17:Int × (List NP) × (List row_Row) × Int,S''=⟨[(7,.nod [.sl 1 (List.map eNP s17.2.1),.sl 3 (List.map z8 s17.2.2.1),dN s17.2.2.2]),(5,(dT false)),(4,(dP (blk p1))),(1,(dN s17.1))],[.var (blk p1) [.val (.slice none 0 0),dN 0,dT false] 49],41⟩∧wo zY.l2 n s17=some t16) n18 ?_ ?_
 ·exact⟨_,Gst.only [1,4,5,7] Z,(a1,x15.fKids,x15.fItems,x15.fN),Z,n23⟩
 rintro n18 _ ⟨_,g,s17,rfl,i22⟩;refine T.ghost g ?_;obtain⟨m19,q20,rfl,q21,i22⟩:=zz i22;unfold zY.l2 at q21;refine T.seq ?_;refine aS ?_;refine aA Z Z ?_;obtain⟨x25,hx25,q21⟩:=bS q21;refine z6 (zh fn152 (uL hx25) Z) Z ?_;refine aA Z Z ?_;refine aN Z ?_;rcases z9 q21 with ⟨c26,q21⟩|⟨c26,q21⟩
 ·refine ze Z (zQ (c26)) ?_;refine T.exit ?_;obtain rfl:=osi q21;obtain rfl:_=_:=i22;exact⟨_,Gst.only [1,4,5,7] Z,Z⟩
 refine zf Z (zR (eN c26)) ?_;refine aK Z ?_;refine T.block ?_;refine aS ?_;iterate 2 refine aA rfl rfl ?_
 obtain⟨x27,hx27,q21⟩:=bS q21;refine z6 (zh fn153 (te hx27) Z) Z ?_;iterate 5 refine aA rfl rfl ?_
 refine aN Z ?_;refine T.region ?_;iterate 5 refine aA rfl rfl ?_
 obtain⟨x28,hx28,q21⟩:=bS q21;obtain⟨x29,hx29,q21⟩:=bS q21;rw[xf hx29] at hx28;refine z6 (zp eNP hx28 Z Z Z Z Z) Z ?_;iterate 4 refine aA rfl rfl ?_
 refine TL.nil ?_;obtain rfl:=osi q21;exact⟨m19,Nat.lt_succ_self _,_,Gst.only [1,4,5,7] Z,(x27.2,x29.fKids,x29.fItems,x29.fN),Z,i22⟩
noncomputable def wJ (a0:grid_Grid) (a1:Int):Option (row_Row × Bool):=
 bnd (zY a0.fRows a1) fun x2=>
 some (x2.1,x2.2)
theorem uc {a0:grid_Grid} {a1:Int} {res:row_Row × Bool} (h0:wJ a0 a1=some res):zo X 24 [.agg [(eOP a0.fRows.fRoot),dT a0.fTail,dN a0.fEnd],dN a1] [] (fun x=>.tup [.agg [.sl 5 (List.map zj res.1.fCells),dN res.1.fEnd,dT res.1.fHidden],dT res.2]) (fun x=>[]):=by
 unfold wJ at h0;refine zb (X:=X) Z Tryz.func24 Z Z Tryz.ntmps24 Z Z ?_;refine aS ?_;refine z6 (zD Z Z) Z ?_;refine TL.op (OpR.alloc Z Z (fun _=>Z)) Z (fun p1=>?_);refine aA Z Z ?_;refine aN Z ?_;refine aS ?_;iterate 3 refine aA rfl rfl ?_
 obtain⟨x2,hx2,h0⟩:=bS h0;refine z6 (zh fn81 (rV hx2) Z) Z ?_;iterate 2 refine aA rfl rfl ?_
 refine zv (OpR.store 0 Z Z Z Z Z Z Z Z) ?_;refine aA Z Z ?_;refine aN Z ?_;refine T.ret ?_;obtain rfl:=osi h0;exact rO [] [4,5] Z undef (cV 0 Z Z Z Z (cT Z ResL.nil)) Z Z Z Z
noncomputable def xo (a0:List cell_Cell):Option (List cell_Cell):=
 bnd (app 56 [] a0) fun x5=>
 some x5
theorem uM {a0:List cell_Cell} {res:(List cell_Cell)} (h0:xo a0=some res):zo X 163 [.sl 5 (List.map zj a0)] [] (fun x=>.val (vn x 0)) (fun x=>[.row (vn x 0) (List.map zj res) 5 144]):=by
 unfold xo at h0;refine zb (X:=X) Z Tryz.func163 Z Z Tryz.ntmps163 Z Z ?_;refine aS ?_;refine aA Z Z ?_;refine aN Z ?_;refine T.seq ?_;refine aS ?_;refine aA Z Z ?_;refine TL.isNil Z Z Z Z (fun b1 e2=>?_);refine aN Z ?_;rcases Bool.eq_false_or_eq_true b1 with c3|c3
 ·obtain rfl:=qK (e2 c3);rw[app_nil] at h0;refine zf Z (c3) ?_;refine aS ?_;refine aA Z Z ?_;refine aN Z ?_;refine T.ret ?_;obtain rfl:=osi h0;exact zE (ks:=[0]) (Gst.trans (Gst.only [2] Z) (ye (ow:=[]) 5 144 Z)) (.tuple #[(.slice none 0 0)]) (cT Z ResL.nil) Z Z Z Z
 refine ze Z (c3) ?_;refine aK Z ?_;refine aS ?_;refine TL.op (sc Z Z Z Z Z Z Z Z (fun _=>Z)) Z (fun v4=>?_);refine aA Z Z ?_;obtain⟨x5,hx5,h0⟩:=bS h0;refine TL.op (zM (m:=a0) zj 0 hx5 Z Z Z Z Z Z Z Z Z (fun _=>Z)) Z (fun v6=>?_);refine aA Z Z ?_;refine aN Z ?_;refine T.ret ?_;obtain rfl:=osi h0;exact rO [0] [2] Z (.tuple #[v6]) (cT Z ResL.nil) Z Z Z Z
noncomputable def tG (a0:row_Row) (a1:Bool):Option row_Row:=
 bnd (xo a0.fCells) fun x3=>
 some (⟨x3,a0.fEnd,a1⟩:row_Row)
theorem row_Row_Hide_c {a0:row_Row} {a1:Bool} {res:row_Row} (h0:tG a0 a1=some res):zo X 121 [.agg [.sl 5 (List.map zj a0.fCells),dN a0.fEnd,dT a0.fHidden],dT a1] [] (fun x=>.agg [.sl 5 (List.map zj res.fCells),dN res.fEnd,dT res.fHidden]) (fun x=>[]):=by
 unfold tG at h0;refine zb (X:=X) Z Tryz.func121 Z Z Tryz.ntmps121 Z Z ?_;refine aS ?_;refine TL.op (xG Z Z (fun _=>Z)) Z (fun p1=>?_);refine TL.op (OpR.alloc Z Z (fun _=>Z)) Z (fun p2=>?_);refine aN Z ?_;refine aS ?_;refine aA Z Z ?_;refine z6 (z7 0 Z Z Z Z) Z ?_;obtain⟨x3,hx3,h0⟩:=bS h0;refine TL.op (OpR.call [] fn163 (uM hx3) Z Z Z (fun _=>Z)) Z (fun w4=>?_);refine aA Z Z ?_;refine zv (OpR.store 0 Z Z Z Z Z Z Z Z) ?_;refine aN Z ?_;refine aS ?_;iterate 2 refine aA rfl rfl ?_
 refine zv (OpR.store 0 Z Z Z Z Z Z Z Z) ?_;refine aN Z ?_;refine aS ?_;refine z6 (z7 0 Z Z Z Z) Z ?_;refine zv (OpR.store 1 Z Z Z Z Z Z Z Z) ?_;refine aN Z ?_;refine T.ret ?_;obtain rfl:=osi h0;exact zE (ks:=[]) (Gst.trans (Gst.only [4] Z) (Gst.trans (zC 2 Z Z (ReS.cons Re.refl ReS.nil) (ReO.var (ReL.cons (Re.base .all) (ReL.cons Re.refl (ReL.cons Re.refl ReL.nil))) (ReO.var (ReL.cons (Re.base .all) (ReL.cons Re.refl (ReL.cons Re.refl ReL.nil))) (ReO.same ReO.nil)))) (Gst.pick [1] Z Z))) undef (cV 0 Z Z Z Z ResL.nil) Z Z Z Z
noncomputable def xu (a0:Int):Option (List row_Row):=
 if a0<0 then
 none
else
 bnd (if (w64 (a0-0))>0 then
 bnd (mkg 40 (w64 (a0-0))) fun x5=>
 some []
else
 some []:Option (List row_Row)) fun t2=>
 some t2
theorem tQ {a0:Int} {res:(List row_Row)} (h0:xu a0=some res):zo X 274 [.val (.slice none 0 0),dN a0] [] (fun x=>.val (vn x 0)) (fun x=>[.row (vn x 0) (List.map z8 res) 3 49]):=by
 unfold xu at h0;refine zb (X:=X) Z Tryz.func274 Z Z Tryz.ntmps274 Z Z ?_;refine aS ?_;refine aA Z Z ?_;refine aN Z ?_;refine T.seq ?_;refine aS ?_;iterate 2 refine aA rfl rfl ?_
 refine aN Z ?_;rcases z9 h0 with ⟨c1,h0⟩|⟨c1,h0⟩
 ·refine zf Z (eT c1) ?_;cases h0
 refine ze Z (eF c1) ?_;refine aK Z ?_;refine T.seq ?_;refine aS ?_;iterate 2 refine aA rfl rfl ?_
 refine z6 (qM Z Z Z) Z ?_;iterate 2 refine aA rfl rfl ?_
 refine z6 (zk (OpR.pure Z) (xn (show w64 (0-0)=0 by decide))) Z ?_;iterate 2 refine aA rfl rfl ?_
 refine aN Z ?_;refine aS ?_;iterate 2 refine aA rfl rfl ?_
 refine aN Z ?_;obtain⟨t2,ht2,h0⟩:=bS h0;refine zA (fun S'=>∃ y3:Value,S'=⟨[(4,.val (.slice none 0 0)),(0,.val y3)],[.row y3 (List.map z8 t2) 3 49],27⟩) (fun _ h=>h) ?_ ?_;rotate_left
 ·rintro _ ⟨y3,rfl⟩;show T X _ _ _;refine aS ?_;iterate 2 refine aA rfl rfl ?_
  refine aN Z ?_;refine T.ret ?_;obtain rfl:=osi h0;exact rO [0] [4] Z (.tuple #[y3]) (cT Z ResL.nil) Z Z Z Z
 rcases z9 ht2 with ⟨c4,ht2⟩|⟨c4,ht2⟩;rotate_left
 ·refine ze Z (eF c4) ?_;refine T.skip ?_;obtain rfl:=osi ht2;exact⟨_,Gst.trans (Gst.only [0,4] Z) (ye (ow:=[]) 3 49 Z),(.slice none 0 0),Z⟩
 refine zf Z (eT c4) ?_;refine T.region ?_;iterate 2 refine aA rfl rfl ?_
 refine z6 (qM Z Z Z) Z ?_;refine z6 (OpR.sliceNil Z Z Z Z Z) Z ?_;refine aA Z Z ?_;obtain⟨x5,hx5,ht2⟩:=bS ht2;refine TL.op (OpR.appendZ hx5 Z Z Z Z Z Z Z Z Z Z (fun _=>Z)) Z (fun v6=>?_);iterate 2 refine aA rfl rfl ?_
 refine z6 (OpR.slice0 0 Z Z Z Z Z Z) Z ?_;refine aA Z Z ?_;refine TL.nil ?_;obtain rfl:=osi ht2;exact⟨_,Gst.only [0,4] Z,(cut0 v6),Z⟩
noncomputable def zT.l1 (a0:List (List row_Row)) (s2:Int × Int):Option (Lp (Int × Int) Int):=
 if s2.2<(a0.length:Int) then
 bnd (idx a0 s2.2) fun x11=>
 if (w64 (s2.1+(x11.length:Int)))<0 then
 none
else
 some (Lp.next (w64 (s2.1+(x11.length:Int)),w64 (s2.2+1)))
else
 some (Lp.done s2.1)
noncomputable def zT.l2 (a0:List (List row_Row)) (s18:Int × (List row_Row)):Option (Lp (Int × (List row_Row)) (List row_Row)):=
 if s18.1<(a0.length:Int) then
 bnd (idx a0 s18.1) fun x27=>
 bnd (app 40 s18.2 x27) fun x28=>
 some (Lp.next (w64 (s18.1+1),x28))
else
 some (Lp.done s18.2)
noncomputable def zT (a0:List (List row_Row)):Option (List row_Row):=
 bnd (loop (zT.l1 a0) (0,0):Option Int) fun t1=>
 bnd (xu t1) fun x13=>
 bnd (loop (zT.l2 a0) (0,x13):Option (List row_Row)) fun t15=>
 some t15
theorem tv {a0:List (List row_Row)} {res:(List row_Row)} (h0:zT a0=some res):zo X 266 [.sl 1 (List.map xQ a0)] [] (fun x=>.sl 3 (List.map z8 res)) (fun x=>[]):=by
 unfold zT at h0;refine zb (X:=X) Z Tryz.func266 Z Z Tryz.ntmps266 Z Z ?_;refine aS ?_;refine aA Z Z ?_;refine aN Z ?_;refine aS ?_;refine aA Z Z ?_;refine aN Z ?_;refine T.seq ?_;refine aS ?_;refine aA Z Z ?_;refine z6 (zk (OpR.pure Z) (xn (w9 _ _))) Z ?_;refine aA Z Z ?_;refine aN Z ?_;obtain⟨t1,ht1,h0⟩:=bS h0;refine zA (fun S'=>S'=⟨[(3,(dN t1)),(2,.val (.slice none 0 0)),(0,.sl 1 (List.map xQ a0))],[],36⟩) (fun _ h=>h) ?_ ?_
 ·refine T.block ?_;obtain⟨n3,n8⟩:=zy ht1;refine T.loop (fun n S'=>∃ S'',Gst S' S''∧∃ s2:Int × Int,S''=⟨[(11,(dN s2.2)),(10,(dN (a0.length:Int))),(9,.sl 1 (List.map xQ a0)),(3,(dN s2.1)),(2,.val (.slice none 0 0)),(0,.sl 1 (List.map xQ a0))],[],36⟩∧wo (zT.l1 a0) n s2=some t1) n3 ?_ ?_
  ·exact⟨_,Gst.only [0,2,3,9,10,11] Z,(0,0),Z,n8⟩
  rintro n3 _ ⟨_,g,s2,rfl,i7⟩;refine T.ghost g ?_;obtain⟨m4,q5,rfl,q6,i7⟩:=zz i7;unfold zT.l1 at q6;refine aS ?_;refine aA Z Z ?_;refine aN Z ?_;refine T.seq ?_;rcases z9 q6 with ⟨c10,q6⟩|⟨c10,q6⟩;rotate_left
  ·refine ze Z (eF c10) ?_;refine T.exit ?_;obtain rfl:=osi q6;obtain rfl:_=_:=i7;exact⟨_,Gst.only [0,2,3] Z,Z⟩
  refine zf Z (eT c10) ?_;refine aK Z ?_;refine T.seq ?_;refine T.block ?_;refine aS ?_;obtain⟨x11,hx11,q6⟩:=bS q6;refine z6 (zp xQ hx11 Z Z Z Z Z) Z ?_;iterate 2 refine aA rfl rfl ?_
  refine aN Z ?_;refine aS ?_;iterate 2 refine aA rfl rfl ?_
  refine z6 (zk (OpR.pure Z) (xn (w9 _ _))) Z ?_;iterate 2 refine aA rfl rfl ?_
  refine aN Z ?_;refine aS ?_;iterate 2 refine aA rfl rfl ?_
  refine aN Z ?_;rcases z9 q6 with ⟨c12,q6⟩|⟨c12,q6⟩
  ·refine zf Z (eT c12) ?_;cases q6
  refine ze Z (eF c12) ?_;refine aK Z ?_;refine T.region ?_;iterate 2 refine aA rfl rfl ?_
  refine TL.nil ?_;obtain rfl:=osi q6;exact⟨m4,Nat.lt_succ_self _,_,Gst.only [0,2,3,9,10,11] Z,(w64 (s2.1+(x11.length:Int)),w64 (s2.2+1)),Z,i7⟩
 rintro _ rfl;show T X _ _ _;refine aS ?_;refine aA Z Z ?_;obtain⟨x13,hx13,h0⟩:=bS h0;refine TL.op (OpR.call [] fn274 (tQ hx13) Z Z Z (fun _=>Z)) Z (fun w14=>?_);refine aA Z Z ?_;refine aN Z ?_;refine T.seq ?_;refine aS ?_;refine aA Z Z ?_;refine z6 (zk (OpR.pure Z) (xn (w9 _ _))) Z ?_;refine aA Z Z ?_;refine aN Z ?_;obtain⟨t15,ht15,h0⟩:=bS h0;refine zA (fun S'=>∃ y16:Value,S'=⟨[(6,.val y16),(2,.val (.slice none 0 0))],[.row y16 (List.map z8 t15) 3 49],36⟩) (fun _ h=>h) ?_ ?_;rotate_left
 ·rintro _ ⟨y16,rfl⟩;show T X _ _ _;refine aS ?_;iterate 2 refine aA rfl rfl ?_
  refine aN Z ?_;refine T.ret ?_;obtain rfl:=osi h0;exact zE (ks:=[]) (Gst.trans (Gst.only [2] Z) (Gst.trans (zC 0 Z Z (ReS.cons (Re.base .all) ReS.nil) (ReO.same ReO.nil)) (Gst.pick [] Z Z))) undef (cT Z ResL.nil) Z Z Z Z
 refine T.block ?_;obtain⟨n19,n24⟩:=zy ht15;refine T.loop (fun n S'=>∃ S'',Gst S' S''∧∃ y17:Value,∃ s18:Int × (List row_Row),S''=⟨[(27,(dN s18.1)),(26,(dN (a0.length:Int))),(25,.sl 1 (List.map xQ a0)),(6,.val y17),(2,.val (.slice none 0 0))],[.row y17 (List.map z8 s18.2) 3 49],36⟩∧wo (zT.l2 a0) n s18=some t15) n19 ?_ ?_
 ·exact⟨_,Gst.only [2,6,25,26,27] Z,(vn w14 0),(0,x13),Z,n24⟩
 rintro n19 _ ⟨_,g,y17,s18,rfl,i23⟩;refine T.ghost g ?_;obtain⟨m20,q21,rfl,q22,i23⟩:=zz i23;unfold zT.l2 at q22;refine aS ?_;refine aA Z Z ?_;refine aN Z ?_;refine T.seq ?_;rcases z9 q22 with ⟨c26,q22⟩|⟨c26,q22⟩;rotate_left
 ·refine ze Z (eF c26) ?_;refine T.exit ?_;obtain rfl:=osi q22;obtain rfl:_=_:=i23;exact⟨_,Gst.only [2,6] Z,y17,Z⟩
 refine zf Z (eT c26) ?_;refine aK Z ?_;refine T.seq ?_;refine T.block ?_;refine aS ?_;obtain⟨x27,hx27,q22⟩:=bS q22;refine z6 (zp xQ hx27 Z Z Z Z Z) Z ?_;iterate 2 refine aA rfl rfl ?_
 refine aN Z ?_;refine T.region ?_;iterate 2 refine aA rfl rfl ?_
 obtain⟨x28,hx28,q22⟩:=bS q22;refine TL.op (zM (m:=x27) z8 0 hx28 Z Z Z Z Z Z Z Z Z (fun _=>Z)) Z (fun v29=>?_);refine aA Z Z ?_;refine aN Z ?_;refine T.region ?_;iterate 2 refine aA rfl rfl ?_
 refine TL.nil ?_;obtain rfl:=osi q22;exact⟨m20,Nat.lt_succ_self _,_,Gst.only [2,6,25,26,27] Z,v29,(w64 (s18.1+1),x28),Z,i23⟩
noncomputable def wZ (a0:List row_Row) (a1:Int) (a2:Int) (a3:List row_Row):Option (List row_Row):=
 bnd (cut a0 0 a1) fun x2=>
 bnd (cut a0 a2 (a0.length:Int)) fun x3=>
 bnd (zT [x2,a3,x3]) fun x4=>
 some x4
theorem qz {a0:List row_Row} {a1:Int} {a2:Int} {a3:List row_Row} {res:(List row_Row)} (h0:wZ a0 a1 a2 a3=some res):zo X 247 [.sl 3 (List.map z8 a0),dN a1,dN a2,.sl 3 (List.map z8 a3)] [] (fun x=>.sl 3 (List.map z8 res)) (fun x=>[]):=by
 unfold wZ at h0;refine zb (X:=X) Z Tryz.func247 Z Z Tryz.ntmps247 Z Z ?_;refine aS ?_;refine aA Z Z ?_;refine aN Z ?_;refine T.seq ?_;obtain⟨x2,hx2,h0⟩:=bS h0;obtain⟨x3,hx3,h0⟩:=bS h0;obtain⟨x4,hx4,h0⟩:=bS h0;refine yr zV [.sl 3 (List.map z8 a0),dN a1,.sl 3 (List.map z8 x2),.sl 3 (List.map z8 a3),.sl 3 (List.map z8 a0),dN a2,.sl 3 (List.map z8 x3),.sl 1 (List.map xQ [x2,a3,x3]),.sl 3 (List.map z8 x4),.sl 3 (List.map z8 x4)] [8] (by decide +kernel) Z ?_ Z ?_;rotate_left
 ·show T X _ _ _;refine T.ret ?_;obtain rfl:=osi h0;exact rO [] [8] Z undef (cT Z ResL.nil) Z Z Z Z
 iterate 2 refine aB rfl rfl rfl ?_
 refine zw.yes (Want.plain Z) Z (wR (sz:=3) z8 hx2 Z Z Z Z BdM.none (BdM.some Z) Z) ?_;iterate 3 refine aB rfl rfl rfl ?_
 refine zw.yes (Want.plain Z) Z (wR (sz:=3) z8 hx3 Z Z Z Z (BdM.some Z) BdM.none Z) ?_;refine zw.yes (Want.plain Z) Z (yN Z Z Z Z Z Z Z) ?_;refine zw.yes (Want.plain Z) Z (zh fn266 (tv hx4) Z) ?_;refine aB Z Z Z ?_;exact zw.nil
noncomputable def yh (a0:Int):Option (List NP):=
 if a0<0 then
 none
else
 bnd (if (w64 (a0-0))>0 then
 bnd (mkg 8 (w64 (a0-0))) fun x5=>
 some []
else
 some []:Option (List NP)) fun t2=>
 some t2
theorem vf {a0:Int} {res:(List NP)} (h0:yh a0=some res):zo X 275 [.val (.slice none 0 0),dN a0] [] (fun x=>.val (vn x 0)) (fun x=>[.row (vn x 0) (List.map eNP res) 1 23]):=by
 unfold yh at h0;refine zb (X:=X) Z Tryz.func275 Z Z Tryz.ntmps275 Z Z ?_;refine aS ?_;refine aA Z Z ?_;refine aN Z ?_;refine T.seq ?_;refine aS ?_;iterate 2 refine aA rfl rfl ?_
 refine aN Z ?_;rcases z9 h0 with ⟨c1,h0⟩|⟨c1,h0⟩
 ·refine zf Z (eT c1) ?_;cases h0
 refine ze Z (eF c1) ?_;refine aK Z ?_;refine T.seq ?_;refine aS ?_;iterate 2 refine aA rfl rfl ?_
 refine z6 (qM Z Z Z) Z ?_;iterate 2 refine aA rfl rfl ?_
 refine z6 (zk (OpR.pure Z) (xn (show w64 (0-0)=0 by decide))) Z ?_;iterate 2 refine aA rfl rfl ?_
 refine aN Z ?_;refine aS ?_;iterate 2 refine aA rfl rfl ?_
 refine aN Z ?_;obtain⟨t2,ht2,h0⟩:=bS h0;refine zA (fun S'=>∃ y3:Value,S'=⟨[(4,.val (.slice none 0 0)),(0,.val y3)],[.row y3 (List.map eNP t2) 1 23],27⟩) (fun _ h=>h) ?_ ?_;rotate_left
 ·rintro _ ⟨y3,rfl⟩;show T X _ _ _;refine aS ?_;iterate 2 refine aA rfl rfl ?_
  refine aN Z ?_;refine T.ret ?_;obtain rfl:=osi h0;exact rO [0] [4] Z (.tuple #[y3]) (cT Z ResL.nil) Z Z Z Z
 rcases z9 ht2 with ⟨c4,ht2⟩|⟨c4,ht2⟩;rotate_left
 ·refine ze Z (eF c4) ?_;refine T.skip ?_;obtain rfl:=osi ht2;exact⟨_,Gst.trans (Gst.only [0,4] Z) (ye (ow:=[]) 1 23 Z),(.slice none 0 0),Z⟩
 refine zf Z (eT c4) ?_;refine T.region ?_;iterate 2 refine aA rfl rfl ?_
 refine z6 (qM Z Z Z) Z ?_;refine z6 (OpR.sliceNil Z Z Z Z Z) Z ?_;refine aA Z Z ?_;obtain⟨x5,hx5,ht2⟩:=bS ht2;refine TL.op (OpR.appendZ hx5 Z Z Z Z Z Z Z Z Z Z (fun _=>Z)) Z (fun v6=>?_);iterate 2 refine aA rfl rfl ?_
 refine z6 (OpR.slice0 0 Z Z Z Z Z Z) Z ?_;refine aA Z Z ?_;refine TL.nil ?_;obtain rfl:=osi ht2;exact⟨_,Gst.only [0,4] Z,(cut0 v6),Z⟩
noncomputable def zu.l1 (a0:List (List NP)) (s2:Int × Int):Option (Lp (Int × Int) Int):=
 if s2.2<(a0.length:Int) then
 bnd (idx a0 s2.2) fun x11=>
 if (w64 (s2.1+(x11.length:Int)))<0 then
 none
else
 some (Lp.next (w64 (s2.1+(x11.length:Int)),w64 (s2.2+1)))
else
 some (Lp.done s2.1)
noncomputable def zu.l2 (a0:List (List NP)) (s18:Int × (List NP)):Option (Lp (Int × (List NP)) (List NP)):=
 if s18.1<(a0.length:Int) then
 bnd (idx a0 s18.1) fun x27=>
 bnd (app 8 s18.2 x27) fun x28=>
 some (Lp.next (w64 (s18.1+1),x28))
else
 some (Lp.done s18.2)
noncomputable def zu (a0:List (List NP)):Option (List NP):=
 bnd (loop (zu.l1 a0) (0,0):Option Int) fun t1=>
 bnd (yh t1) fun x13=>
 bnd (loop (zu.l2 a0) (0,x13):Option (List NP)) fun t15=>
 some t15
theorem v9 {a0:List (List NP)} {res:(List NP)} (h0:zu a0=some res):zo X 267 [.sl 1 (List.map uC a0)] [] (fun x=>.sl 1 (List.map eNP res)) (fun x=>[]):=by
 unfold zu at h0;refine zb (X:=X) Z Tryz.func267 Z Z Tryz.ntmps267 Z Z ?_;refine aS ?_;refine aA Z Z ?_;refine aN Z ?_;refine aS ?_;refine aA Z Z ?_;refine aN Z ?_;refine T.seq ?_;refine aS ?_;refine aA Z Z ?_;refine z6 (zk (OpR.pure Z) (xn (w9 _ _))) Z ?_;refine aA Z Z ?_;refine aN Z ?_;obtain⟨t1,ht1,h0⟩:=bS h0;refine zA (fun S'=>S'=⟨[(3,(dN t1)),(2,.val (.slice none 0 0)),(0,.sl 1 (List.map uC a0))],[],36⟩) (fun _ h=>h) ?_ ?_
 ·refine T.block ?_;obtain⟨n3,n8⟩:=zy ht1;refine T.loop (fun n S'=>∃ S'',Gst S' S''∧∃ s2:Int × Int,S''=⟨[(11,(dN s2.2)),(10,(dN (a0.length:Int))),(9,.sl 1 (List.map uC a0)),(3,(dN s2.1)),(2,.val (.slice none 0 0)),(0,.sl 1 (List.map uC a0))],[],36⟩∧wo (zu.l1 a0) n s2=some t1) n3 ?_ ?_
  ·exact⟨_,Gst.only [0,2,3,9,10,11] Z,(0,0),Z,n8⟩
  rintro n3 _ ⟨_,g,s2,rfl,i7⟩;refine T.ghost g ?_;obtain⟨m4,q5,rfl,q6,i7⟩:=zz i7;unfold zu.l1 at q6;refine aS ?_;refine aA Z Z ?_;refine aN Z ?_;refine T.seq ?_;rcases z9 q6 with ⟨c10,q6⟩|⟨c10,q6⟩;rotate_left
  ·refine ze Z (eF c10) ?_;refine T.exit ?_;obtain rfl:=osi q6;obtain rfl:_=_:=i7;exact⟨_,Gst.only [0,2,3] Z,Z⟩
  refine zf Z (eT c10) ?_;refine aK Z ?_;refine T.seq ?_;refine T.block ?_;refine aS ?_;obtain⟨x11,hx11,q6⟩:=bS q6;refine z6 (zp uC hx11 Z Z Z Z Z) Z ?_;iterate 2 refine aA rfl rfl ?_
  refine aN Z ?_;refine aS ?_;iterate 2 refine aA rfl rfl ?_
  refine z6 (zk (OpR.pure Z) (xn (w9 _ _))) Z ?_;iterate 2 refine aA rfl rfl ?_
  refine aN Z ?_;refine aS ?_;iterate 2 refine aA rfl rfl ?_
  refine aN Z ?_;rcases z9 q6 with ⟨c12,q6⟩|⟨c12,q6⟩
  ·refine zf Z (eT c12) ?_;cases q6
  refine ze Z (eF c12) ?_;refine aK Z ?_;refine T.region ?_;iterate 2 refine aA rfl rfl ?_
  refine TL.nil ?_;obtain rfl:=osi q6;exact⟨m4,Nat.lt_succ_self _,_,Gst.only [0,2,3,9,10,11] Z,(w64 (s2.1+(x11.length:Int)),w64 (s2.2+1)),Z,i7⟩
 rintro _ rfl;show T X _ _ _;refine aS ?_;refine aA Z Z ?_;obtain⟨x13,hx13,h0⟩:=bS h0;refine TL.op (OpR.call [] fn275 (vf hx13) Z Z Z (fun _=>Z)) Z (fun w14=>?_);refine aA Z Z ?_;refine aN Z ?_;refine T.seq ?_;refine aS ?_;refine aA Z Z ?_;refine z6 (zk (OpR.pure Z) (xn (w9 _ _))) Z ?_;refine aA Z Z ?_;refine aN Z ?_;obtain⟨t15,ht15,h0⟩:=bS h0;refine zA (fun S'=>∃ y16:Value,S'=⟨[(6,.val y16),(2,.val (.slice none 0 0))],[.row y16 (List.map eNP t15) 1 23],36⟩) (fun _ h=>h) ?_ ?_;rotate_left
 ·rintro _ ⟨y16,rfl⟩;show T X _ _ _;refine aS ?_;iterate 2 refine aA rfl rfl ?_
  refine aN Z ?_;refine T.ret ?_;obtain rfl:=osi h0;exact zE (ks:=[]) (Gst.trans (Gst.only [2] Z) (Gst.trans (zC 0 Z Z (ReS.cons (Re.base .all) ReS.nil) (ReO.same ReO.nil)) (Gst.pick [] Z Z))) undef (cT Z ResL.nil) Z Z Z Z
 refine T.block ?_;obtain⟨n19,n24⟩:=zy ht15;refine T.loop (fun n S'=>∃ S'',Gst S' S''∧∃ y17:Value,∃ s18:Int × (List NP),S''=⟨[(27,(dN s18.1)),(26,(dN (a0.length:Int))),(25,.sl 1 (List.map uC a0)),(6,.val y17),(2,.val (.slice none 0 0))],[.row y17 (List.map eNP s18.2) 1 23],36⟩∧wo (zu.l2 a0) n s18=some t15) n19 ?_ ?_
 ·exact⟨_,Gst.only [2,6,25,26,27] Z,(vn w14 0),(0,x13),Z,n24⟩
 rintro n19 _ ⟨_,g,y17,s18,rfl,i23⟩;refine T.ghost g ?_;obtain⟨m20,q21,rfl,q22,i23⟩:=zz i23;unfold zu.l2 at q22;refine aS ?_;refine aA Z Z ?_;refine aN Z ?_;refine T.seq ?_;rcases z9 q22 with ⟨c26,q22⟩|⟨c26,q22⟩;rotate_left
 ·refine ze Z (eF c26) ?_;refine T.exit ?_;obtain rfl:=osi q22;obtain rfl:_=_:=i23;exact⟨_,Gst.only [2,6] Z,y17,Z⟩
 refine zf Z (eT c26) ?_;refine aK Z ?_;refine T.seq ?_;refine T.block ?_;refine aS ?_;obtain⟨x27,hx27,q22⟩:=bS q22;refine z6 (zp uC hx27 Z Z Z Z Z) Z ?_;iterate 2 refine aA rfl rfl ?_
 refine aN Z ?_;refine T.region ?_;iterate 2 refine aA rfl rfl ?_
 obtain⟨x28,hx28,q22⟩:=bS q22;refine TL.op (zM (m:=x27) eNP 0 hx28 Z Z Z Z Z Z Z Z Z (fun _=>Z)) Z (fun v29=>?_);refine aA Z Z ?_;refine aN Z ?_;refine T.region ?_;iterate 2 refine aA rfl rfl ?_
 refine TL.nil ?_;obtain rfl:=osi q22;exact⟨m20,Nat.lt_succ_self _,_,Gst.only [2,6,25,26,27] Z,v29,(w64 (s18.1+1),x28),Z,i23⟩
noncomputable def xe (a0:List NP) (a1:Int) (a2:Int) (a3:List NP):Option (List NP):=
 bnd (cut a0 0 a1) fun x2=>
 bnd (cut a0 a2 (a0.length:Int)) fun x3=>
 bnd (zu [x2,a3,x3]) fun x4=>
 some x4
theorem tu {a0:List NP} {a1:Int} {a2:Int} {a3:List NP} {res:(List NP)} (h0:xe a0 a1 a2 a3=some res):zo X 248 [.sl 1 (List.map eNP a0),dN a1,dN a2,.sl 1 (List.map eNP a3)] [] (fun x=>.sl 1 (List.map eNP res)) (fun x=>[]):=by
 unfold xe at h0;refine zb (X:=X) Z Tryz.func248 Z Z Tryz.ntmps248 Z Z ?_;refine aS ?_;refine aA Z Z ?_;refine aN Z ?_;refine T.seq ?_;obtain⟨x2,hx2,h0⟩:=bS h0;obtain⟨x3,hx3,h0⟩:=bS h0;obtain⟨x4,hx4,h0⟩:=bS h0;refine yr zV [.sl 1 (List.map eNP a0),dN a1,.sl 1 (List.map eNP x2),.sl 1 (List.map eNP a3),.sl 1 (List.map eNP a0),dN a2,.sl 1 (List.map eNP x3),.sl 1 (List.map uC [x2,a3,x3]),.sl 1 (List.map eNP x4),.sl 1 (List.map eNP x4)] [8] (by decide +kernel) Z ?_ Z ?_;rotate_left
 ·show T X _ _ _;refine T.ret ?_;obtain rfl:=osi h0;exact rO [] [8] Z undef (cT Z ResL.nil) Z Z Z Z
 iterate 2 refine aB rfl rfl rfl ?_
 refine zw.yes (Want.plain Z) Z (wR (sz:=1) eNP hx2 Z Z Z Z BdM.none (BdM.some Z) Z) ?_;iterate 3 refine aB rfl rfl rfl ?_
 refine zw.yes (Want.plain Z) Z (wR (sz:=1) eNP hx3 Z Z Z Z (BdM.some Z) BdM.none Z) ?_;refine zw.yes (Want.plain Z) Z (yN Z Z Z Z Z Z Z) ?_;refine zw.yes (Want.plain Z) Z (zh fn267 (v9 hx4) Z) ?_;refine aB Z Z Z ?_;exact zw.nil
noncomputable def yd.body (self:(List NP)→(List row_Row)→Int→Int→row_Row→Option ((List NP) × (List row_Row) × Int)) (a0:List NP) (a1:List row_Row) (a2:Int) (a3:Int) (a4:row_Row):Option ((List NP) × (List row_Row) × Int):=
 bnd (xH a0 a1 a2) fun x1=>
 if x1=true then
 bnd (wZ a1 a3 (w64 (a3+1)) [a4]) fun x4=>
 bnd (wS x4) fun x5=>
 some (x5.1,x5.2.1,x5.2.2)
else
 bnd (zZ a0 a1 a2 a3) fun x6=>
 bnd (idx a0 x6.1) fun x8=>
 bnd (vi x8) fun x9=>
 bnd (self x9.fKids x9.fItems x9.fN x6.2 a4) fun x10=>
 bnd (xe a0 x6.1 (w64 (x6.1+1)) [(yM (⟨x10.1,x10.2.1,x10.2.2⟩:tNd))]) fun x11=>
 bnd (yq x11) fun x12=>
 some (x12.1,x12.2.1,x12.2.2)
noncomputable def yd:Nat→(List NP)→(List row_Row)→Int→Int→row_Row→Option ((List NP) × (List row_Row) × Int)
| 0=>fun _ _ _ _ _=>none
| n+1=>yd.body (yd n)
theorem rI {fu:Nat} {a0:List NP} {a1:List row_Row} {a2:Int} {a3:Int} {a4:row_Row} {res:(List NP) × (List row_Row) × Int} (h0:yd fu a0 a1 a2 a3 a4=some res):zo X 222 [.nod [.sl 1 (List.map eNP a0),.sl 3 (List.map z8 a1),dN a2],dN a3,.agg [.sl 5 (List.map zj a4.fCells),dN a4.fEnd,dT a4.fHidden]] [] (fun x=>.nod [.sl 1 (List.map eNP res.1),.sl 3 (List.map z8 res.2.1),dN res.2.2]) (fun x=>[]):=by
 induction fu generalizing a0 a1 a2 a3 a4 res
 ·exact nomatch h0
 rename_i fu ih
 replace h0:yd.body (yd fu) a0 a1 a2 a3 a4=some res:=h0
 unfold yd.body at h0;refine zb (X:=X) Z Tryz.func222 Z Z Tryz.ntmps222 Z Z ?_;refine aS ?_;refine z6 (zD Z Z) Z ?_;refine aA Z Z ?_;refine aN Z ?_;refine T.seq ?_;refine aS ?_;refine aA Z Z ?_;obtain⟨x1,hx1,h0⟩:=bS h0;refine z6 (zh fn152 (uL hx1) Z) Z ?_;refine aN Z ?_;rcases z9 h0 with ⟨c2,h0⟩|⟨c2,h0⟩
 ·refine zf Z (c2) ?_;refine T.seq ?_;obtain⟨x4,hx4,h0⟩:=bS h0;obtain⟨x5,hx5,h0⟩:=bS h0;refine yr zV [.nod [.sl 1 (List.map eNP a0),.sl 3 (List.map z8 a1),dN a2],.nod [.sl 1 (List.map eNP a0),.sl 3 (List.map z8 a1),dN a2],.nod [.sl 3 (List.map z8 a1),dN a2],.sl 3 (List.map z8 a1),dN a3,dN a3,dN (w64 (a3+1)),.agg [.sl 5 (List.map zj a4.fCells),dN a4.fEnd,dT a4.fHidden],.sl 3 (List.map z8 [a4]),.sl 3 (List.map z8 x4),.nod [.sl 1 (List.map eNP x5.1),.sl 3 (List.map z8 x5.2.1),dN x5.2.2],.nod [.sl 1 (List.map eNP x5.1),.sl 3 (List.map z8 x5.2.1),dN x5.2.2]] [0,1,5,6] (by decide +kernel) Z ?_ Z ?_;rotate_left
  ·show T X _ _ _;refine T.ret ?_;obtain rfl:=osi h0;exact rO [] [6] Z undef (cT Z ResL.nil) Z Z Z Z
  iterate 8 refine aB rfl rfl rfl ?_
  refine zw.yes (Want.plain Z) Z (yN Z Z Z Z Z Z Z) ?_;refine zw.yes (Want.plain Z) Z (zh fn247 (qz hx4) Z) ?_;refine zw.yes (Want.plain Z) Z (zh fn211 (sC hx5) Z) ?_;refine aB Z Z Z ?_;exact zw.nil
 refine ze Z (eN c2) ?_;refine aK Z ?_;refine aS ?_;iterate 2 refine aA rfl rfl ?_
 obtain⟨x6,hx6,h0⟩:=bS h0;refine z6 (zh fn153 (te hx6) Z) Z ?_;iterate 5 refine aA rfl rfl ?_
 refine aN Z ?_;refine T.seq ?_;obtain⟨x8,hx8,h0⟩:=bS h0;obtain⟨x9,hx9,h0⟩:=bS h0;rw[xf hx9] at hx8;obtain⟨x10,hx10,h0⟩:=bS h0;obtain⟨x11,hx11,h0⟩:=bS h0;obtain⟨x12,hx12,h0⟩:=bS h0;refine yr zV [.nod [.sl 1 (List.map eNP a0),.sl 3 (List.map z8 a1),dN a2],.nod [.sl 1 (List.map eNP a0),.sl 3 (List.map z8 a1),dN a2],.nod [.sl 1 (List.map eNP a0),.sl 3 (List.map z8 a1),dN a2],.sl 1 (List.map eNP a0),dN x6.1,dN x6.1,dN (w64 (x6.1+1)),.nod [.sl 1 (List.map eNP a0),.sl 3 (List.map z8 a1),dN a2],.nod [.sl 1 (List.map eNP a0),.sl 3 (List.map z8 a1),dN a2],.nod [.sl 1 (List.map eNP a0),.sl 3 (List.map z8 a1),dN a2],.sl 1 (List.map eNP a0),dN x6.1,.nod [.nod [.sl 1 (List.map eNP x9.fKids),.sl 3 (List.map z8 x9.fItems),dN x9.fN]],.nod [.sl 1 (List.map eNP x9.fKids),.sl 3 (List.map z8 x9.fItems),dN x9.fN],dN x6.2,.agg [.sl 5 (List.map zj a4.fCells),dN a4.fEnd,dT a4.fHidden],.nod [.sl 1 (List.map eNP x10.1),.sl 3 (List.map z8 x10.2.1),dN x10.2.2],.sl 1 (List.map eNP [(yM (⟨x10.1,x10.2.1,x10.2.2⟩:tNd))]),.sl 1 (List.map eNP x11),.nod [.sl 1 (List.map eNP x12.1),.sl 3 (List.map z8 x12.2.1),dN x12.2.2],.nod [.sl 1 (List.map eNP x12.1),.sl 3 (List.map z8 x12.2.1),dN x12.2.2]] [6] (by decide +kernel) Z ?_ Z ?_;rotate_left
 ·show T X _ _ _;refine T.ret ?_;obtain rfl:=osi h0;exact rO [] [6] Z undef (cT Z ResL.nil) Z Z Z Z
 iterate 12 refine aB rfl rfl rfl ?_
 refine zw.yes (Want.plain Z) Z (zp eNP hx8 Z Z Z Z Z) ?_;iterate 3 refine aB rfl rfl rfl ?_
 refine zw.yes (Want.plain Z) Z (zh fn222 (ih hx10) Z) ?_;refine zw.yes (Want.plain Z) Z (yN Z Z Z Z Z Z Z) ?_;refine zw.yes (Want.plain Z) Z (zh fn248 (tu hx11) Z) ?_;refine zw.yes (Want.plain Z) Z (zh fn236 (tR hx12) Z) ?_;refine aB Z Z Z ?_;exact zw.nil
noncomputable def xP (a0:tTr) (a1:Int) (a2:row_Row):Option (tTr × Bool):=
 bnd (xO a0 a1) fun x2=>
 if x2=true then
 bnd (some a0.fRoot) fun q4=>match q4 with
| none=>
 none
| some z5=>
 bnd (vi z5) fun x6=>
 bnd (yd 64 x6.fKids x6.fItems x6.fN a1 a2) fun x7=>
 some ((⟨(some (yM (⟨x7.1,x7.2.1,x7.2.2⟩:tNd)))⟩:tTr),true)
else
 some (a0,false)
theorem rH {a0:tTr} {a1:Int} {a2:row_Row} {res:tTr × Bool} (h0:xP a0 a1 a2=some res):zo X 187 [.agg [(eOP a0.fRoot)],dN a1,.agg [.sl 5 (List.map zj a2.fCells),dN a2.fEnd,dT a2.fHidden]] [] (fun x=>.tup [.agg [(eOP res.1.fRoot)],dT res.2]) (fun x=>[]):=by
 unfold xP at h0;refine zb (X:=X) Z Tryz.func187 Z Z Tryz.ntmps187 Z Z ?_;refine aS ?_;refine z6 (zD Z Z) Z ?_;refine z6 (zD Z Z) Z ?_;refine TL.op (OpR.alloc Z Z (fun _=>Z)) Z (fun p1=>?_);refine aA Z Z ?_;refine aN Z ?_;refine T.seq ?_;refine aS ?_;iterate 2 refine aA rfl rfl ?_
 obtain⟨x2,hx2,h0⟩:=bS h0;refine z6 (zh fn151 (td hx2) Z) Z ?_;refine aA Z Z ?_;refine aN Z ?_;rcases z9 h0 with ⟨c3,h0⟩|⟨c3,h0⟩;rotate_left
 ·refine zf Z (zR (eN c3)) ?_;refine aS ?_;refine aA Z Z ?_;refine zv (OpR.store 0 Z Z Z Z Z Z Z Z) ?_;refine aA Z Z ?_;refine aN Z ?_;refine T.ret ?_;obtain rfl:=osi h0;exact rO [] [6,7] Z undef (cV 0 Z Z Z Z (cT Z ResL.nil)) Z Z Z Z
 refine ze Z (zQ (c3)) ?_;refine aK Z ?_;refine aS ?_;refine aA Z Z ?_;obtain⟨q4,hq4,h0⟩:=bS h0;rcases q4 with _|z5
 ·dsimp only at h0;refine z6 (zk (OpR.pure Z) (congrArg eOP (osi hq4))) Z ?_;iterate 2 refine aA rfl rfl ?_
  exact (by cases h0)
 dsimp only at h0;obtain⟨x6,hx6,h0⟩:=bS h0;rw[xf hx6] at hq4;refine z6 (zk (OpR.pure Z) (congrArg eOP (osi hq4))) Z ?_;iterate 2 refine aA rfl rfl ?_
 obtain⟨x7,hx7,h0⟩:=bS h0;refine z6 (zh fn222 (rI hx7) Z) Z ?_;refine z6 (OpR.build Z Z Z Z Z) Z ?_;refine zv (OpR.store 0 Z Z Z Z Z Z Z Z) ?_;refine aA Z Z ?_;refine aN Z ?_;refine T.ret ?_;obtain rfl:=osi h0;exact rO [] [6,7] Z undef (cV 0 Z Z Z Z (cT Z ResL.nil)) Z Z Z Z
noncomputable def tD (a0:grid_Grid) (a1:tTr) (a2:Bool):Option (grid_Grid × Int):=
 if a2=true then
 some ((⟨a1,a0.fTail,a0.fEnd⟩:grid_Grid),0)
else
 some ((⟨(⟨none⟩:tTr),false,0⟩:grid_Grid),5)
theorem grid_Grid_with_c {a0:grid_Grid} {a1:tTr} {a2:Bool} {res:grid_Grid × Int} (h0:tD a0 a1 a2=some res):zo X 186 [.agg [(eOP a0.fRows.fRoot),dT a0.fTail,dN a0.fEnd],.agg [(eOP a1.fRoot)],dT a2] [] (fun x=>.tup [.agg [(eOP res.1.fRows.fRoot),dT res.1.fTail,dN res.1.fEnd],dN res.2]) (fun x=>[]):=by
 unfold tD at h0;refine zb (X:=X) Z Tryz.func186 Z Z Tryz.ntmps186 Z Z ?_;refine aS ?_;refine TL.op (xG Z Z (fun _=>Z)) Z (fun p1=>?_);refine z6 (zD Z Z) Z ?_;refine TL.op (OpR.alloc Z Z (fun _=>Z)) Z (fun p2=>?_);refine aA Z Z ?_;refine aN Z ?_;refine T.seq ?_;refine aS ?_;iterate 2 refine aA rfl rfl ?_
 refine aN Z ?_;rcases z9 h0 with ⟨c3,h0⟩|⟨c3,h0⟩;rotate_left
 ·refine zf Z (zR (eN c3)) ?_;refine aS ?_;refine z6 (OpR.build Z Z Z Z Z) Z ?_;refine zv (OpR.store 1 Z Z Z Z Z Z Z Z) ?_;refine aA Z Z ?_;refine aN Z ?_;refine T.ret ?_;obtain rfl:=osi h0;exact rP [] [6,7] [1] Z Z Z undef (cV 0 Z Z Z Z (cT Z ResL.nil)) Z Z Z Z
 refine ze Z (zQ (c3)) ?_;refine aK Z ?_;refine aS ?_;iterate 2 refine aA rfl rfl ?_
 refine zv (OpR.store 0 Z Z Z Z Z Z Z Z) ?_;refine aN Z ?_;refine aS ?_;refine z6 (z7 0 Z Z Z Z) Z ?_;refine zv (OpR.store 1 Z Z Z Z Z Z Z Z) ?_;refine aA Z Z ?_;refine aN Z ?_;refine T.ret ?_;obtain rfl:=osi h0;exact rP [] [6,7] [1] Z Z Z undef (cV 0 Z Z Z Z (cT Z ResL.nil)) Z Z Z Z
noncomputable def uY (a0:grid_Grid) (a1:Int) (a2:row_Row):Option (grid_Grid × Int):=
 bnd (xP a0.fRows a1 a2) fun x3=>
 bnd (tD a0 x3.1 x3.2) fun x4=>
 some (x4.1,x4.2)
theorem grid_Grid_Put_c {a0:grid_Grid} {a1:Int} {a2:row_Row} {res:grid_Grid × Int} (h0:uY a0 a1 a2=some res):zo X 120 [.agg [(eOP a0.fRows.fRoot),dT a0.fTail,dN a0.fEnd],dN a1,.agg [.sl 5 (List.map zj a2.fCells),dN a2.fEnd,dT a2.fHidden]] [] (fun x=>.tup [.agg [(eOP res.1.fRows.fRoot),dT res.1.fTail,dN res.1.fEnd],dN res.2]) (fun x=>[]):=by
 unfold uY at h0;refine zb (X:=X) Z Tryz.func120 Z Z Tryz.ntmps120 Z Z ?_;refine aS ?_;refine z6 (zD Z Z) Z ?_;refine z6 (zD Z Z) Z ?_;refine TL.op (OpR.alloc Z Z (fun _=>Z)) Z (fun p1=>?_);refine aA Z Z ?_;refine aN Z ?_;refine T.seq ?_;obtain⟨x3,hx3,h0⟩:=bS h0;obtain⟨x4,hx4,h0⟩:=bS h0;refine yA zV (fun env2=>[.agg [(eOP a0.fRows.fRoot),dT a0.fTail,dN a0.fEnd],.nod [(eOP a0.fRows.fRoot),dT a0.fTail,dN a0.fEnd],.agg [(eOP a0.fRows.fRoot)],dN a1,.agg [.sl 5 (List.map zj a2.fCells),dN a2.fEnd,dT a2.fHidden],.tup [.agg [(eOP x3.1.fRoot)],dT x3.2],.agg [(eOP x3.1.fRoot)],dT x3.2,.tup [.agg [(eOP x4.1.fRows.fRoot),dT x4.1.fTail,dN x4.1.fEnd],dN x4.2],.agg [(eOP x4.1.fRows.fRoot),dT x4.1.fTail,dN x4.1.fEnd],dN x4.2,.dead,dN x4.2]) (fun D env2=>[(bif D 11 then .var (blk p1) [(eOP x4.1.fRows.fRoot),dT x4.1.fTail,dN x4.1.fEnd] 27 else .var (blk p1) [(eOP none),dT false,dN 0] 27)]) [0,0,2,0,0,30,62,62,255,511,511,2047,4095] [6,7] _ (by decide +kernel) (by decide +kernel) (fun _=>Z) (fun _=>Z) ?_ (fun _=>Z) (fun _=>Z) ?_;rotate_left
 ·intro env2;show T X _ _ _;refine T.ret ?_;obtain rfl:=osi h0;exact rO [] [6,7] Z undef (cV 0 Z Z Z Z (cT Z ResL.nil)) Z Z Z Z
 iterate 5 refine aC ?_
 refine oT (.tup [.agg [(eOP x3.1.fRoot)],dT x3.2]) (fun _ _=>zh fn187 (rH hx3) Z) ?_;iterate 2 refine aC ?_
 refine oT (.tup [.agg [(eOP x4.1.fRows.fRoot),dT x4.1.fTail,dN x4.1.fEnd],dN x4.2]) (fun _ _=>zh fn186 (grid_Grid_with_c hx4) Z) ?_;iterate 2 refine aC ?_
 refine zi true ?_ (fun _ _ _ _ _ _ _=>Z) ?_
 ·intro D env2 hA;exact zK [(11,false)] ⟨hA.me,trivial⟩ (Want.plain Z) (OpR.store 0 Z Z Z Z Z Z Z Z) (fun x=>Z) (fun x=>Z)
 refine aC ?_;exact trivial
noncomputable def si (a0:ref11_Grid) (a1:Int):Option Bool:=
 bnd (if a1≥0 then
 some (decide (a1<(a0.fRows.length:Int)))
else
 some false:Option Bool) fun t1=>
 some t1
theorem pf {a0:ref11_Grid} {a1:Int} {res:Bool} (h0:si a0 a1=some res):zo X 64 [.agg [.sl 3 (List.map zl a0.fRows),dT a0.fTail,dN a0.fEnd],dN a1] [] (fun x=>(dT res)) (fun x=>[]):=by
 unfold si at h0;refine zb (X:=X) Z Tryz.func64 Z Z Tryz.ntmps64 Z Z ?_;refine aS ?_;refine z6 (zD Z Z) Z ?_;refine aA Z Z ?_;refine aN Z ?_;refine T.seq ?_;obtain⟨t1,ht1,h0⟩:=bS h0;refine zA (fun S'=>S'=⟨[(4,(dT t1))],[],14⟩) (fun _ h=>h) ?_ ?_;rotate_left
 ·rintro _ rfl;show T X _ _ _;refine T.ret ?_;obtain rfl:=osi h0;exact rO [] [4] Z undef (cT Z ResL.nil) Z Z Z Z
 refine T.region ?_;iterate 3 refine aA rfl rfl ?_
 rcases z9 ht1 with ⟨c2,ht1⟩|⟨c2,ht1⟩;rotate_left
 ·refine TL.off Z Z Z Z (eF c2) Z Z ?_;refine TL.off Z Z Z Z (eF c2) Z Z ?_;refine TL.off Z Z Z Z (eF c2) Z Z ?_;refine TL.off Z Z Z Z (eF c2) Z Z ?_;refine TL.off Z Z Z Z (eF c2) Z Z ?_;refine z6 (zx Z (eF c2) Z) Z ?_;refine aA Z Z ?_;refine TL.nil ?_;obtain rfl:=osi ht1;exact⟨_,Gst.only [4] Z,Z⟩
 refine TL.on Z Z Z Z (eT c2) ?_;refine aA Z Z ?_;refine TL.on Z Z Z Z (eT c2) ?_;refine aA Z Z ?_;refine TL.on Z Z Z Z (eT c2) ?_;refine aA Z Z ?_;refine TL.on Z Z Z Z (eT c2) ?_;refine z6 (zk (OpR.pure Z) (xn (w9 _ _))) Z ?_;refine TL.on Z Z Z Z (eT c2) ?_;refine aA Z Z ?_;refine z6 (zt Z (eT c2) Z) Z ?_;refine aA Z Z ?_;refine TL.nil ?_;obtain rfl:=osi ht1;exact⟨_,Gst.only [4] Z,Z⟩
noncomputable def ref11_With (a0:ref11_Grid) (a1:List ref08_Row):Option (Bool × Int):=
 some (a0.fTail,a0.fEnd)
theorem ref11_With_c {a0:ref11_Grid} {a1:List ref08_Row} {v0:Value} {res:Bool × Int} (h0:ref11_With a0 a1=some res):zo X 122 [.agg [.sl 3 (List.map zl a0.fRows),dT a0.fTail,dN a0.fEnd],.val v0] [.row v0 (List.map zl a1) 3 60] (fun x=>.agg [.val v0,dT res.1,dN res.2]) (fun x=>[.row v0 (List.map zl a1) 3 60]):=by
 unfold ref11_With at h0;refine zb (X:=X) Z Tryz.func122 Z Z Tryz.ntmps122 Z Z ?_;refine aS ?_;refine z6 (zD Z Z) Z ?_;refine TL.op (OpR.alloc Z Z (fun _=>Z)) Z (fun p1=>?_);refine aN Z ?_;refine aS ?_;iterate 5 refine aA rfl rfl ?_
 refine z6 (OpR.build Z Z Z Z Z) Z ?_;refine zv (OpR.store 1 Z Z Z Z Z Z Z Z) ?_;refine aN Z ?_;refine T.ret ?_;obtain rfl:=osi h0;exact rO [0] [4] Z undef (cV 1 Z Z Z Z ResL.nil) Z Z Z Z
noncomputable def vz.l1 (a0:ref11_Grid) (a1:Int) (a2:ref08_Row) (s7:Int × (List ref08_Row)):Option (Lp (Int × (List ref08_Row)) (List ref08_Row)):=
 if s7.1<(a0.fRows.length:Int) then
 bnd (idx a0.fRows s7.1) fun x16=>
 bnd (if s7.1=a1 then
 some (a2.fCells,a2.fEnd,a2.fHidden)
else
 some (x16.fCells,x16.fEnd,x16.fHidden):Option ((List ref07_Cell) × Int × Bool)) fun t18=>
 bnd (app 40 s7.2 [(⟨t18.1,t18.2.1,t18.2.2⟩:ref08_Row)]) fun x20=>
 some (Lp.next (w64 (s7.1+1),x20))
else
 some (Lp.done s7.2)
noncomputable def vz (a0:ref11_Grid) (a1:Int) (a2:ref08_Row):Option (ref11_Grid × Int):=
 bnd (si a0 a1) fun x2=>
 if x2=true then
 bnd (loop (vz.l1 a0 a1 a2) (0,[]):Option (List ref08_Row)) fun t4=>
 bnd (ref11_With a0 t4) fun x22=>
 some ((⟨t4,x22.1,x22.2⟩:ref11_Grid),0)
else
 some ((⟨[],false,0⟩:ref11_Grid),5)
theorem ref11_Put_c {a0:ref11_Grid} {a1:Int} {a2:ref08_Row} {res:ref11_Grid × Int} (h0:vz a0 a1 a2=some res):zo X 103 [.agg [.sl 3 (List.map zl a0.fRows),dT a0.fTail,dN a0.fEnd],dN a1,.agg [.sl 3 (List.map zB a2.fCells),dN a2.fEnd,dT a2.fHidden]] [] (fun x=>.tup [.agg [.sl 3 (List.map zl res.1.fRows),dT res.1.fTail,dN res.1.fEnd],dN res.2]) (fun x=>[]):=by
 unfold vz at h0;refine zb (X:=X) Z Tryz.func103 Z Z Tryz.ntmps103 Z Z ?_;refine aS ?_;refine z6 (zD Z Z) Z ?_;refine z6 (zD Z Z) Z ?_;refine TL.op (OpR.alloc Z Z (fun _=>Z)) Z (fun p1=>?_);refine aA Z Z ?_;refine aN Z ?_;refine T.seq ?_;refine aS ?_;iterate 2 refine aA rfl rfl ?_
 obtain⟨x2,hx2,h0⟩:=bS h0;refine z6 (zh fn64 (pf hx2) Z) Z ?_;refine aA Z Z ?_;refine aN Z ?_;rcases z9 h0 with ⟨c3,h0⟩|⟨c3,h0⟩;rotate_left
 ·refine zf Z (zR (eN c3)) ?_;refine aS ?_;refine z6 (OpR.build Z Z Z Z Z) Z ?_;refine zv (OpR.store 0 Z Z Z Z Z Z Z Z) ?_;refine aA Z Z ?_;refine aN Z ?_;refine T.ret ?_;obtain rfl:=osi h0;exact zE (ks:=[]) (Gst.trans (Gst.only [6,7] Z) (Gst.denil (ReS.cons Re.refl (ReS.cons Re.refl ReS.nil)) (ReO.var (ReL.cons (Re.base .nil) (ReL.cons Re.refl (ReL.cons Re.refl ReL.nil))) ReO.nil))) undef (cV 0 Z Z Z Z (cT Z ResL.nil)) Z Z Z Z
 refine ze Z (zQ (c3)) ?_;refine aK Z ?_;refine aS ?_;refine aA Z Z ?_;refine aN Z ?_;refine T.seq ?_;refine aS ?_;iterate 2 refine aA rfl rfl ?_
 refine z6 (zk (OpR.pure Z) (xn (w9 _ _))) Z ?_;refine aA Z Z ?_;refine aN Z ?_;obtain⟨t4,ht4,h0⟩:=bS h0;refine zA (fun S'=>∃ y5:Value,S'=⟨[(8,.val y5),(7,(dN 0)),(6,(dP (blk p1))),(3,.nod [.sl 3 (List.map zl a0.fRows),dT a0.fTail,dN a0.fEnd])],[.var (blk p1) [.val (.slice none 0 0),dT false,dN 0] 31,.row y5 (List.map zl t4) 3 60],36⟩) (fun _ h=>h) ?_ ?_;rotate_left
 ·rintro _ ⟨y5,rfl⟩;show T X _ _ _;refine aS ?_;iterate 2 refine aA rfl rfl ?_
  obtain⟨x22,hx22,h0⟩:=bS h0;refine z6 (OpR.call [1] fn122 (ref11_With_c hx22) Z Z Z (fun _=>Z)) Z ?_;refine zv (OpR.store 0 Z Z Z Z Z Z Z Z) ?_;refine aA Z Z ?_;refine aN Z ?_;refine T.ret ?_;obtain rfl:=osi h0;exact zE (ks:=[]) (Gst.trans (Gst.only [6,7] Z) (Gst.trans (zC 1 Z Z (ReS.cons Re.refl (ReS.cons Re.refl ReS.nil)) (ReO.var (ReL.cons (Re.base .all) (ReL.cons Re.refl (ReL.cons Re.refl ReL.nil))) (ReO.same ReO.nil))) (Gst.pick [0] Z Z))) undef (cV 0 Z Z Z Z (cT Z ResL.nil)) Z Z Z Z
 refine T.block ?_;obtain⟨n8,n13⟩:=zy ht4;refine T.loop (fun n S'=>∃ S'',Gst S' S''∧∃ y6:Value,∃ s7:Int × (List ref08_Row),S''=⟨[(19,(dN s7.1)),(18,(dN (a0.fRows.length:Int))),(17,.sl 3 (List.map zl a0.fRows)),(8,.val y6),(7,(dN 0)),(6,(dP (blk p1))),(5,.nod [.sl 3 (List.map zB a2.fCells),dN a2.fEnd,dT a2.fHidden]),(3,.nod [.sl 3 (List.map zl a0.fRows),dT a0.fTail,dN a0.fEnd]),(1,(dN a1))],[.var (blk p1) [.val (.slice none 0 0),dT false,dN 0] 31,.row y6 (List.map zl s7.2) 3 60],36⟩∧wo (vz.l1 a0 a1 a2) n s7=some t4) n8 ?_ ?_
 ·exact⟨_,Gst.trans (Gst.only [1,3,5,6,7,8,17,18,19] Z) (ye (ow:=[.var (blk p1) [.val (.slice none 0 0),dT false,dN 0] 31]) 3 60 Z),(.slice none 0 0),(0,[]),Z,n13⟩
 rintro n8 _ ⟨_,g,y6,s7,rfl,i12⟩;refine T.ghost g ?_;obtain⟨m9,q10,rfl,q11,i12⟩:=zz i12;unfold vz.l1 at q11;refine aS ?_;refine aA Z Z ?_;refine aN Z ?_;refine T.seq ?_;rcases z9 q11 with ⟨c15,q11⟩|⟨c15,q11⟩;rotate_left
 ·refine ze Z (eF c15) ?_;refine T.exit ?_;obtain rfl:=osi q11;obtain rfl:_=_:=i12;exact⟨_,Gst.only [3,6,7,8] Z,y6,Z⟩
 refine zf Z (eT c15) ?_;refine aK Z ?_;refine T.seq ?_;refine T.block ?_;refine aS ?_;refine aA Z Z ?_;obtain⟨x16,hx16,q11⟩:=bS q11;refine z6 (zp zl hx16 Z Z Z Z Z) Z ?_;refine aA Z Z ?_;refine TL.op (OpR.alloc Z Z (fun _=>Z)) Z (fun p17=>?_);refine aA Z Z ?_;refine zv (OpR.store 2 Z Z Z Z Z Z Z Z) ?_;refine aN Z ?_;refine T.seq ?_;refine aS ?_;iterate 3 refine aA rfl rfl ?_
 refine aN Z ?_;obtain⟨t18,ht18,q11⟩:=bS q11;refine zA (fun S'=>S'=⟨[(19,(dN s7.1)),(18,(dN (a0.fRows.length:Int))),(17,.sl 3 (List.map zl a0.fRows)),(10,(dP (blk p17))),(8,.val y6),(7,(dN 0)),(6,(dP (blk p1))),(5,.nod [.sl 3 (List.map zB a2.fCells),dN a2.fEnd,dT a2.fHidden]),(3,.nod [.sl 3 (List.map zl a0.fRows),dT a0.fTail,dN a0.fEnd]),(1,(dN a1))],[.var (blk p1) [.val (.slice none 0 0),dT false,dN 0] 31,.row y6 (List.map zl s7.2) 3 60,.var (blk p17) [.sl 3 (List.map zB t18.1),dN t18.2.1,dT t18.2.2] 60],36⟩) (fun _ h=>h) ?_ ?_
 ·rcases z9 ht18 with ⟨c19,ht18⟩|⟨c19,ht18⟩;rotate_left
  ·refine ze Z (beq_eq_false_iff_ne.2 c19) ?_;refine T.skip ?_;obtain rfl:=osi ht18;exact⟨_,Gst.only [1,3,5,6,7,8,10,17,18,19] Z,Z⟩
  refine zf Z (beq_iff_eq.2 c19) ?_;refine T.region ?_;refine aA Z Z ?_;refine zv (OpR.store 2 Z Z Z Z Z Z Z Z) ?_;refine TL.nil ?_;obtain rfl:=osi ht18;exact⟨_,Gst.only [1,3,5,6,7,8,10,17,18,19] Z,Z⟩
 rintro _ rfl;show T X _ _ _;refine T.region ?_;refine aA Z Z ?_;refine z6 (z7 2 Z Z Z Z) Z ?_;refine z6 (yN Z Z Z Z Z Z Z) Z ?_;obtain⟨x20,hx20,q11⟩:=bS q11;refine TL.op (zM (m:=[(⟨t18.1,t18.2.1,t18.2.2⟩:ref08_Row)]) zl 1 hx20 Z Z Z Z Z Z Z Z Z (fun _=>Z)) Z (fun v21=>?_);refine aA Z Z ?_;refine aN Z ?_;refine T.region ?_;iterate 2 refine aA rfl rfl ?_
 refine TL.nil ?_;obtain rfl:=osi q11;exact⟨m9,Nat.lt_succ_self _,_,gP [1,3,5,6,7,8,17,18,19] [0,1] Z Z Z,v21,(w64 (s7.1+1),x20),Z,i12⟩
noncomputable def wg.l1 (a1:Int) (s10:Int × (Option NP) × Bool × Int × (List ref08_Row) × Bool × Int):Option (Lp (Int × (Option NP) × Bool × Int × (List ref08_Row) × Bool × Int) ((Option NP) × Bool × Int × (List ref08_Row) × Bool × Int)):=
 bnd (bnd (yK (⟨(⟨s10.2.1⟩:tTr),s10.2.2.1,s10.2.2.2.1⟩:grid_Grid)) fun x19=>
 if s10.1<x19 then
 some (decide (s10.1<64))
else
 some false:Option Bool) fun t18=>
 if t18=true then
 bnd (bnd (shv .u64 a1 (IntKind.wrap .u64 s10.1)) fun x23=>
 if (IntKind.wrap .u64 (iand .u64 x23 1))=0 then
 some (s10.2.1,s10.2.2.1,s10.2.2.2.1,s10.2.2.2.2.1,s10.2.2.2.2.2.1,s10.2.2.2.2.2.2)
else
 bnd (wJ (⟨(⟨s10.2.1⟩:tTr),s10.2.2.1,s10.2.2.2.1⟩:grid_Grid) s10.1) fun x25=>
 bnd (tG x25.1 true) fun x28=>
 bnd (uY (⟨(⟨s10.2.1⟩:tTr),s10.2.2.1,s10.2.2.2.1⟩:grid_Grid) s10.1 x28) fun x29=>
 bnd (idx s10.2.2.2.2.1 s10.1) fun x30=>
 bnd (vz (⟨s10.2.2.2.2.1,s10.2.2.2.2.2.1,s10.2.2.2.2.2.2⟩:ref11_Grid) s10.1 (⟨x30.fCells,x30.fEnd,true⟩:ref08_Row)) fun x32=>
 some (x29.1.fRows.fRoot,x29.1.fTail,x29.1.fEnd,x32.1.fRows,x32.1.fTail,x32.1.fEnd):Option ((Option NP) × Bool × Int × (List ref08_Row) × Bool × Int)) fun t22=>
 some (Lp.next (w64 (s10.1+1),t22.1,t22.2.1,t22.2.2.1,t22.2.2.2.1,t22.2.2.2.2.1,t22.2.2.2.2.2))
else
 some (Lp.done (s10.2.1,s10.2.2.1,s10.2.2.2.1,s10.2.2.2.2.1,s10.2.2.2.2.2.1,s10.2.2.2.2.2.2))
noncomputable def wg (a0:List UInt8) (a1:Int):Option ((grid_Grid × ref11_Grid × Bool × (List UInt8)) ⊕ (grid_Grid × ref11_Grid)):=
 bnd (sm a0 1500) fun x3=>
 bnd (vG x3) fun x4=>
 match x4 with
| .inl x4=>
 if x4.2.2.1=true then
 bnd (loop (wg.l1 a1) (0,x4.1.fRows.fRoot,x4.1.fTail,x4.1.fEnd,x4.2.1.fRows,x4.2.1.fTail,x4.2.1.fEnd):Option ((Option NP) × Bool × Int × (List ref08_Row) × Bool × Int)) fun t9=>
 some (Sum.inl ((⟨(⟨t9.1⟩:tTr),t9.2.1,t9.2.2.1⟩:grid_Grid),(⟨t9.2.2.2.1,t9.2.2.2.2.1,t9.2.2.2.2.2⟩:ref11_Grid),true,x4.2.2.2))
else
 some (Sum.inl (x4.1,x4.2.1,false,x4.2.2.2))
| .inr x4=>
 some (Sum.inr (x4.1,x4.2))
theorem law16_Hide_c {a0:List UInt8} {a1:Int} {res:(grid_Grid × ref11_Grid × Bool × (List UInt8)) ⊕ (grid_Grid × ref11_Grid)} (h0:wg a0 a1=some res):zo X 49 [.val (.string (bs a0)),.val (.int .u64 a1)] [] (fun x=>(match res with | .inl res=>.tup [.agg [(eOP res.1.fRows.fRoot),dT res.1.fTail,dN res.1.fEnd],dP (blk (vn x 0)),.agg [.sl 3 (List.map zl res.2.1.fRows),dT res.2.1.fTail,dN res.2.1.fEnd],dT res.2.2.1] | .inr res=>.tup [.agg [(eOP res.1.fRows.fRoot),dT res.1.fTail,dN res.1.fEnd],dQ,.agg [.sl 3 (List.map zl res.2.fRows),dT res.2.fTail,dN res.2.fEnd],dT false])) (fun x=>(match res with | .inl res=>[.var (blk (vn x 0)) [.val (vn x 1)] 264,.row (vn x 1) (lB res.2.2.2) 1 5] | .inr res=>[])):=by
 unfold wg at h0;refine zb (X:=X) Z Tryz.func49 Z Z Tryz.ntmps49 Z Z ?_;refine aS ?_;refine TL.op (OpR.alloc Z Z (fun _=>Z)) Z (fun p1=>?_);refine aA Z Z ?_;refine TL.op (OpR.alloc Z Z (fun _=>Z)) Z (fun p2=>?_);refine aA Z Z ?_;refine aN Z ?_;refine aS ?_;refine aA Z Z ?_;obtain⟨x3,hx3,h0⟩:=bS h0;refine z6 (zh fn15 (law11_Cut_c hx3) Z) Z ?_;obtain⟨x4,hx4,h0⟩:=bS h0;rcases x4 with x4|x4;rotate_left
 ·dsimp only at h0;refine z6 (zh fn14 (law11_Begun_cx2 hx4) Z) Z ?_;iterate 5 refine aA rfl rfl ?_
  refine TL.op (OpR.alloc Z Z (fun _=>Z)) Z (fun p35=>?_);refine TL.op (OpR.alloc Z Z (fun _=>Z)) Z (fun p36=>?_);refine zv (OpR.store 2 Z Z Z Z Z Z Z Z) ?_;refine aA Z Z ?_;refine zv (OpR.store 3 Z Z Z Z Z Z Z Z) ?_;refine aA Z Z ?_;refine aN Z ?_;refine T.seq ?_;refine aS ?_;iterate 2 refine aA rfl rfl ?_
  refine aN Z ?_;refine zf Z Z ?_;refine T.seq ?_;refine yA zV (fun env37=>[.agg [(eOP x4.1.fRows.fRoot),dT x4.1.fTail,dN x4.1.fEnd],dQ,.agg [.sl 3 (List.map zl x4.2.fRows),dT x4.2.fTail,dN x4.2.fEnd],.dead,dQ,.dead,dT false]) (fun D env37=>[(bif D 3 then .var (blk p1) [(eOP x4.1.fRows.fRoot),dT x4.1.fTail,dN x4.1.fEnd] 27 else .var (blk p1) [(eOP none),dT false,dN 0] 27),(bif D 5 then .var (blk p2) [.sl 3 (List.map zl x4.2.fRows),dT x4.2.fTail,dN x4.2.fEnd] 31 else .var (blk p2) [.val (.slice none 0 0),dT false,dN 0] 31),.var (blk p35) [(eOP x4.1.fRows.fRoot),dT x4.1.fTail,dN x4.1.fEnd] 27,.var (blk p36) [.sl 3 (List.map zl x4.2.fRows),dT x4.2.fTail,dN x4.2.fEnd] 31]) [0,0,0,1,11,31,63] [1,4,5,6,7,8,9,10] _ (by decide +kernel) (by decide +kernel) (fun _=>Z) (fun _=>Z) ?_ (fun _=>Z) (fun _=>Z) ?_;rotate_left
  ·intro env37;show T X _ _ _;refine T.ret ?_;obtain rfl:=osi h0;exact rP [] [4,5,6,7] [0,1] Z Z Z undef (cV 0 Z Z Z Z (cT Z (cV 1 Z Z Z Z (cT Z ResL.nil)))) Z Z Z Z
  refine oT (.agg [(eOP x4.1.fRows.fRoot),dT x4.1.fTail,dN x4.1.fEnd]) (fun _ _=>z7 2 Z Z Z Z) ?_;refine aC ?_;refine oT (.agg [.sl 3 (List.map zl x4.2.fRows),dT x4.2.fTail,dN x4.2.fEnd]) (fun _ _=>z7 3 Z Z Z Z) ?_;refine zi true ?_ (fun _ _ _ _ _ _ _=>Z) ?_
  ·intro D env37 hA;have e5:D 5=false:=hA.no 5 _ rfl rfl;exact zK [(5,false),(3,false)] ⟨e5,hA.me,trivial⟩ (Want.plain Z) (OpR.store 0 Z Z Z Z Z Z Z Z) (fun x=>Z) (fun x=>Z)
  refine aC ?_;refine zi true ?_ (fun _ _ _ _ _ _ _=>Z) ?_
  ·intro D env37 hA;have e3:D 3=true:=hA.yes 3 _ rfl rfl;exact zK [(3,true),(5,false)] ⟨e3,hA.me,trivial⟩ (Want.plain Z) (OpR.store 1 Z Z Z Z Z Z Z Z) (fun x=>Z) (fun x=>Z)
  refine aC ?_;exact trivial
 dsimp only at h0;refine TL.op (OpR.call [] fn14 (law11_Begun_cx1 hx4) Z Z Z (fun _=>Z)) Z (fun w5=>?_);iterate 5 refine aA rfl rfl ?_
 refine TL.op (OpR.alloc Z Z (fun _=>Z)) Z (fun p6=>?_);refine TL.op (OpR.alloc Z Z (fun _=>Z)) Z (fun p7=>?_);refine zv (OpR.store 4 Z Z Z Z Z Z Z Z) ?_;refine aA Z Z ?_;refine zv (OpR.store 5 Z Z Z Z Z Z Z Z) ?_;refine aA Z Z ?_;refine aN Z ?_;refine T.seq ?_;refine aS ?_;iterate 2 refine aA rfl rfl ?_
 refine aN Z ?_;rcases z9 h0 with ⟨c8,h0⟩|⟨c8,h0⟩;rotate_left
 ·refine zf Z (zR (eN c8)) ?_;refine T.seq ?_;refine yA zV (fun env34=>[.agg [(eOP x4.1.fRows.fRoot),dT x4.1.fTail,dN x4.1.fEnd],dP (blk (vn w5 0)),.agg [.sl 3 (List.map zl x4.2.1.fRows),dT x4.2.1.fTail,dN x4.2.1.fEnd],.dead,dP (blk (vn w5 0)),.dead,dT false]) (fun D env34=>[(bif D 3 then .var (blk p1) [(eOP x4.1.fRows.fRoot),dT x4.1.fTail,dN x4.1.fEnd] 27 else .var (blk p1) [(eOP none),dT false,dN 0] 27),(bif D 5 then .var (blk p2) [.sl 3 (List.map zl x4.2.1.fRows),dT x4.2.1.fTail,dN x4.2.1.fEnd] 31 else .var (blk p2) [.val (.slice none 0 0),dT false,dN 0] 31),.var (blk (vn w5 0)) [.val (vn w5 1)] 264,.row (vn w5 1) (lB x4.2.2.2) 1 5,.var (blk p6) [(eOP x4.1.fRows.fRoot),dT x4.1.fTail,dN x4.1.fEnd] 27,.var (blk p7) [.sl 3 (List.map zl x4.2.1.fRows),dT x4.2.1.fTail,dN x4.2.1.fEnd] 31]) [0,0,0,1,11,31,63] [1,4,5,6,7,8,9,10] _ (by decide +kernel) (by decide +kernel) (fun _=>Z) (fun _=>Z) ?_ (fun _=>Z) (fun _=>Z) ?_;rotate_left
  ·intro env34;show T X _ _ _;refine T.ret ?_;obtain rfl:=osi h0;exact rP [1,3] [4,5,6,7] [0,2,1,3] Z Z Z (.tuple #[(vn w5 0),(vn w5 1)]) (cV 0 Z Z Z Z (cT Z (cV 2 Z Z Z Z (cT Z ResL.nil)))) Z Z Z Z
  refine oT (.agg [(eOP x4.1.fRows.fRoot),dT x4.1.fTail,dN x4.1.fEnd]) (fun _ _=>z7 4 Z Z Z Z) ?_;refine aC ?_;refine oT (.agg [.sl 3 (List.map zl x4.2.1.fRows),dT x4.2.1.fTail,dN x4.2.1.fEnd]) (fun _ _=>z7 5 Z Z Z Z) ?_;refine zi true ?_ (fun _ _ _ _ _ _ _=>Z) ?_
  ·intro D env34 hA;have e5:D 5=false:=hA.no 5 _ rfl rfl;exact zK [(5,false),(3,false)] ⟨e5,hA.me,trivial⟩ (Want.plain Z) (OpR.store 0 Z Z Z Z Z Z Z Z) (fun x=>Z) (fun x=>Z)
  refine aC ?_;refine zi true ?_ (fun _ _ _ _ _ _ _=>Z) ?_
  ·intro D env34 hA;have e3:D 3=true:=hA.yes 3 _ rfl rfl;exact zK [(3,true),(5,false)] ⟨e3,hA.me,trivial⟩ (Want.plain Z) (OpR.store 1 Z Z Z Z Z Z Z Z) (fun x=>Z) (fun x=>Z)
  refine aC ?_;exact trivial
 refine ze Z (zQ (c8)) ?_;refine aK Z ?_;refine T.seq ?_;refine aS ?_;refine aA Z Z ?_;refine aN Z ?_;obtain⟨t9,ht9,h0⟩:=bS h0;refine zA (fun S'=>S'=⟨[(10,(dP (blk p7))),(9,(dP (blk (vn w5 0)))),(8,(dP (blk p6))),(7,(dT false)),(6,(dP (blk p2))),(5,dQ),(4,(dP (blk p1)))],[.var (blk p1) [(eOP none),dT false,dN 0] 27,.var (blk p2) [.val (.slice none 0 0),dT false,dN 0] 31,.var (blk p6) [(eOP t9.1),dT t9.2.1,dN t9.2.2.1] 27,.var (blk (vn w5 0)) [.val (vn w5 1)] 264,.var (blk p7) [.sl 3 (List.map zl t9.2.2.2.1),dT t9.2.2.2.2.1,dN t9.2.2.2.2.2] 31,.row (vn w5 1) (lB x4.2.2.2) 1 5],75⟩) (fun _ h=>h) ?_ ?_;rotate_left
 ·rintro _ rfl;show T X _ _ _;refine T.seq ?_;refine yA zV (fun env33=>[.agg [(eOP t9.1),dT t9.2.1,dN t9.2.2.1],dP (blk (vn w5 0)),.agg [.sl 3 (List.map zl t9.2.2.2.1),dT t9.2.2.2.2.1,dN t9.2.2.2.2.2],.dead,dP (blk (vn w5 0)),.dead,dT true]) (fun D env33=>[(bif D 3 then .var (blk p1) [(eOP t9.1),dT t9.2.1,dN t9.2.2.1] 27 else .var (blk p1) [(eOP none),dT false,dN 0] 27),(bif D 5 then .var (blk p2) [.sl 3 (List.map zl t9.2.2.2.1),dT t9.2.2.2.2.1,dN t9.2.2.2.2.2] 31 else .var (blk p2) [.val (.slice none 0 0),dT false,dN 0] 31),.var (blk p6) [(eOP t9.1),dT t9.2.1,dN t9.2.2.1] 27,.var (blk (vn w5 0)) [.val (vn w5 1)] 264,.var (blk p7) [.sl 3 (List.map zl t9.2.2.2.1),dT t9.2.2.2.2.1,dN t9.2.2.2.2.2] 31,.row (vn w5 1) (lB x4.2.2.2) 1 5]) [0,0,0,1,11,31,63] [4,5,6,7] _ (by decide +kernel) (by decide +kernel) (fun _=>Z) (fun _=>Z) ?_ (fun _=>Z) (fun _=>Z) ?_;rotate_left
  ·intro env33;show T X _ _ _;refine T.ret ?_;obtain rfl:=osi h0;exact rP [1,3] [4,5,6,7] [0,3,1,5] Z Z Z (.tuple #[(vn w5 0),(vn w5 1)]) (cV 0 Z Z Z Z (cT Z (cV 2 Z Z Z Z (cT Z ResL.nil)))) Z Z Z Z
  refine oT (.agg [(eOP t9.1),dT t9.2.1,dN t9.2.2.1]) (fun _ _=>z7 2 Z Z Z Z) ?_;refine aC ?_;refine oT (.agg [.sl 3 (List.map zl t9.2.2.2.1),dT t9.2.2.2.2.1,dN t9.2.2.2.2.2]) (fun _ _=>z7 4 Z Z Z Z) ?_;refine zi true ?_ (fun _ _ _ _ _ _ _=>Z) ?_
  ·intro D env33 hA;have e5:D 5=false:=hA.no 5 _ rfl rfl;exact zK [(5,false),(3,false)] ⟨e5,hA.me,trivial⟩ (Want.plain Z) (OpR.store 0 Z Z Z Z Z Z Z Z) (fun x=>Z) (fun x=>Z)
  refine aC ?_;refine zi true ?_ (fun _ _ _ _ _ _ _=>Z) ?_
  ·intro D env33 hA;have e3:D 3=true:=hA.yes 3 _ rfl rfl;exact zK [(3,true),(5,false)] ⟨e3,hA.me,trivial⟩ (Want.plain Z) (OpR.store 1 Z Z Z Z Z Z Z Z) (fun x=>Z) (fun x=>Z)
  refine aC ?_;exact trivial
 refine T.block ?_;obtain⟨n11,n16⟩:=zy ht9;refine T.loop (fun n S'=>∃ S'',Gst S' S''∧∃ s10:Int × (Option NP) × Bool × Int × (List ref08_Row) × Bool × Int,S''=⟨[(12,(dN s10.1)),(10,(dP (blk p7))),(9,(dP (blk (vn w5 0)))),(8,(dP (blk p6))),(7,(dT false)),(6,(dP (blk p2))),(5,dQ),(4,(dP (blk p1))),(1,.val (.int .u64 a1))],[.var (blk p1) [(eOP none),dT false,dN 0] 27,.var (blk p2) [.val (.slice none 0 0),dT false,dN 0] 31,.var (blk p6) [(eOP s10.2.1),dT s10.2.2.1,dN s10.2.2.2.1] 27,.var (blk (vn w5 0)) [.val (vn w5 1)] 264,.var (blk p7) [.sl 3 (List.map zl s10.2.2.2.2.1),dT s10.2.2.2.2.2.1,dN s10.2.2.2.2.2.2] 31,.row (vn w5 1) (lB x4.2.2.2) 1 5],75⟩∧wo (wg.l1 a1) n s10=some t9) n11 ?_ ?_
 ·exact⟨_,gP [1,4,5,6,7,8,9,10,12] [0,1,4,2,5,3] Z Z Z,(0,x4.1.fRows.fRoot,x4.1.fTail,x4.1.fEnd,x4.2.1.fRows,x4.2.1.fTail,x4.2.1.fEnd),Z,n16⟩
 rintro n11 _ ⟨_,g,s10,rfl,i15⟩;refine T.ghost g ?_;obtain⟨m12,q13,rfl,q14,i15⟩:=zz i15;unfold wg.l1 at q14;refine T.seq ?_;refine T.seq ?_;obtain⟨t18,ht18,q14⟩:=bS q14;refine zA (fun S'=>S'=⟨[(36,(dT t18)),(12,(dN s10.1)),(10,(dP (blk p7))),(9,(dP (blk (vn w5 0)))),(8,(dP (blk p6))),(7,(dT false)),(6,(dP (blk p2))),(5,dQ),(4,(dP (blk p1))),(1,.val (.int .u64 a1))],[.var (blk p1) [(eOP none),dT false,dN 0] 27,.var (blk p2) [.val (.slice none 0 0),dT false,dN 0] 31,.var (blk p6) [(eOP s10.2.1),dT s10.2.2.1,dN s10.2.2.2.1] 27,.var (blk (vn w5 0)) [.val (vn w5 1)] 264,.var (blk p7) [.sl 3 (List.map zl s10.2.2.2.2.1),dT s10.2.2.2.2.2.1,dN s10.2.2.2.2.2.2] 31,.row (vn w5 1) (lB x4.2.2.2) 1 5],75⟩) (fun _ h=>h) ?_ ?_
 ·refine T.region ?_;refine aA Z Z ?_;refine z6 (z7 2 Z Z Z Z) Z ?_;obtain⟨x19,hx19,ht18⟩:=bS ht18;refine z6 (zh fn22 (yQ hx19) Z) Z ?_;iterate 2 refine aA rfl rfl ?_
  rcases z9 ht18 with ⟨c20,ht18⟩|⟨c20,ht18⟩;rotate_left
  ·refine TL.off Z Z Z Z (eF c20) Z Z ?_;refine TL.off Z Z Z Z (eF c20) Z Z ?_;refine z6 (zx Z (eF c20) Z) Z ?_;refine TL.nil ?_;obtain rfl:=osi ht18;exact⟨_,Gst.only [1,4,5,6,7,8,9,10,12,36] Z,Z⟩
  refine TL.on Z Z Z Z (eT c20) ?_;refine aA Z Z ?_;refine TL.on Z Z Z Z (eT c20) ?_;refine aA Z Z ?_;refine z6 (zt Z (eT c20) Z) Z ?_;refine TL.nil ?_;obtain rfl:=osi ht18;exact⟨_,Gst.only [1,4,5,6,7,8,9,10,12,36] Z,Z⟩
 rintro _ rfl;show T X _ _ _;rcases z9 q14 with ⟨c21,q14⟩|⟨c21,q14⟩;rotate_left
 ·refine ze Z (eN c21) ?_;refine T.exit ?_;obtain rfl:=osi q14;obtain rfl:_=_:=i15;exact⟨_,Gst.only [4,5,6,7,8,9,10] Z,Z⟩
 refine zf Z (c21) ?_;refine aK Z ?_;refine T.seq ?_;obtain⟨t22,ht22,q14⟩:=bS q14;refine zA (fun S'=>S'=⟨[(12,(dN s10.1)),(10,(dP (blk p7))),(9,(dP (blk (vn w5 0)))),(8,(dP (blk p6))),(7,(dT false)),(6,(dP (blk p2))),(5,dQ),(4,(dP (blk p1))),(1,.val (.int .u64 a1))],[.var (blk p1) [(eOP none),dT false,dN 0] 27,.var (blk p2) [.val (.slice none 0 0),dT false,dN 0] 31,.var (blk p6) [(eOP t22.1),dT t22.2.1,dN t22.2.2.1] 27,.var (blk (vn w5 0)) [.val (vn w5 1)] 264,.var (blk p7) [.sl 3 (List.map zl t22.2.2.2.1),dT t22.2.2.2.2.1,dN t22.2.2.2.2.2] 31,.row (vn w5 1) (lB x4.2.2.2) 1 5],75⟩) (fun _ h=>h) ?_ ?_;rotate_left
 ·rintro _ rfl;show T X _ _ _;refine T.region ?_;iterate 3 refine aA rfl rfl ?_
  refine TL.nil ?_;obtain rfl:=osi q14;exact⟨m12,Nat.lt_succ_self _,_,Gst.only [1,4,5,6,7,8,9,10,12] Z,(w64 (s10.1+1),t22.1,t22.2.1,t22.2.2.1,t22.2.2.2.1,t22.2.2.2.2.1,t22.2.2.2.2.2),Z,i15⟩
 refine T.block ?_;refine T.seq ?_;refine aS ?_;iterate 3 refine aA rfl rfl ?_
 obtain⟨x23,hx23,ht22⟩:=bS ht22;refine z6 (OpR.shvM hx23 Z Z) Z ?_;iterate 2 refine aA rfl rfl ?_
 refine aN Z ?_;rcases z9 ht22 with ⟨c24,ht22⟩|⟨c24,ht22⟩
 ·refine zf Z (beq_iff_eq.2 c24) ?_;refine T.exit ?_;obtain rfl:=osi ht22;exact⟨_,Gst.only [1,4,5,6,7,8,9,10,12] Z,Z⟩
 refine ze Z (beq_eq_false_iff_ne.2 c24) ?_;refine aK Z ?_;refine aS ?_;refine z6 (z7 2 Z Z Z Z) Z ?_;refine aA Z Z ?_;obtain⟨x25,hx25,ht22⟩:=bS ht22;refine z6 (zh fn24 (uc hx25) Z) Z ?_;iterate 3 refine aA rfl rfl ?_
 refine TL.op (OpR.alloc Z Z (fun _=>Z)) Z (fun p26=>?_);refine zv (OpR.store 6 Z Z Z Z Z Z Z Z) ?_;refine aA Z Z ?_;refine aN Z ?_;refine T.seq ?_;obtain⟨x28,hx28,ht22⟩:=bS ht22;obtain⟨x29,hx29,ht22⟩:=bS ht22;refine yA zV (fun env27=>[.agg [(eOP s10.2.1),dT s10.2.2.1,dN s10.2.2.2.1],dN s10.1,.agg [.sl 5 (List.map zj x25.1.fCells),dN x25.1.fEnd,dT x25.1.fHidden],.agg [.sl 5 (List.map zj x28.fCells),dN x28.fEnd,dT x28.fHidden],.tup [.agg [(eOP x29.1.fRows.fRoot),dT x29.1.fTail,dN x29.1.fEnd],dN x29.2],.tup [.agg [(eOP x29.1.fRows.fRoot),dT x29.1.fTail,dN x29.1.fEnd],dN x29.2],.agg [(eOP x29.1.fRows.fRoot),dT x29.1.fTail,dN x29.1.fEnd],dN x29.2,.dead]) (fun D env27=>[.var (blk p1) [(eOP none),dT false,dN 0] 27,.var (blk p2) [.val (.slice none 0 0),dT false,dN 0] 31,(bif D 8 then .var (blk p6) [(eOP x29.1.fRows.fRoot),dT x29.1.fTail,dN x29.1.fEnd] 27 else .var (blk p6) [(eOP s10.2.1),dT s10.2.2.1,dN s10.2.2.2.1] 27),.var (blk (vn w5 0)) [.val (vn w5 1)] 264,.var (blk p7) [.sl 3 (List.map zl s10.2.2.2.2.1),dT s10.2.2.2.2.2.1,dN s10.2.2.2.2.2.2] 31,.row (vn w5 1) (lB x4.2.2.2) 1 5,.var (blk p26) [.sl 5 (List.map zj x25.1.fCells),dN x25.1.fEnd,dT x25.1.fHidden] 49]) [0,0,0,4,15,31,63,63,127] [1,4,5,6,7,8,9,10,12] _ (by decide +kernel) (by decide +kernel) (fun _=>Z) (fun _=>Z) ?_ (fun _=>Z) (fun _=>Z) ?_;rotate_left
 ·intro env27;show T X _ _ _;refine aS ?_;refine aA Z Z ?_;refine z6 (z7 4 Z Z Z Z) Z ?_;refine aA Z Z ?_;obtain⟨x30,hx30,ht22⟩:=bS ht22;refine z6 (zp zl hx30 Z Z Z Z Z) Z ?_;refine aA Z Z ?_;refine TL.op (OpR.alloc Z Z (fun _=>Z)) Z (fun p31=>?_);refine zv (OpR.store 7 Z Z Z Z Z Z Z Z) ?_;refine aN Z ?_;refine aS ?_;refine aA Z Z ?_;refine zv (OpR.store 7 Z Z Z Z Z Z Z Z) ?_;refine aN Z ?_;refine T.region ?_;refine z6 (z7 4 Z Z Z Z) Z ?_;refine aA Z Z ?_;refine z6 (z7 7 Z Z Z Z) Z ?_;obtain⟨x32,hx32,ht22⟩:=bS ht22;refine z6 (zh fn103 (ref11_Put_c hx32) Z) Z ?_;iterate 3 refine aA rfl rfl ?_
  refine zv (OpR.store 4 Z Z Z Z Z Z Z Z) ?_;refine TL.nil ?_;obtain rfl:=osi ht22;exact⟨_,gP [1,4,5,6,7,8,9,10,12] [0,1,2,3,4,5] Z Z Z,Z⟩
 refine zi true ?_ (fun _ _ _ _ _ _ _=>Z) ?_
 ·intro D env27 hA;have e8:D 8=false:=hA.no 8 _ rfl rfl;exact zK [(8,false)] ⟨e8,trivial⟩ (Want.plain Z) (z7 2 Z Z Z Z) (fun x=>Z) (fun x=>Z)
 refine aC ?_;refine oT (.agg [.sl 5 (List.map zj x25.1.fCells),dN x25.1.fEnd,dT x25.1.fHidden]) (fun _ _=>z7 6 Z Z Z Z) ?_;refine oT (.agg [.sl 5 (List.map zj x28.fCells),dN x28.fEnd,dT x28.fHidden]) (fun _ _=>zh fn121 (row_Row_Hide_c hx28) Z) ?_;refine oT (.tup [.agg [(eOP x29.1.fRows.fRoot),dT x29.1.fTail,dN x29.1.fEnd],dN x29.2]) (fun _ _=>zh fn120 (grid_Grid_Put_c hx29) Z) ?_;iterate 3 refine aC ?_
 refine zi true ?_ (fun _ _ _ _ _ _ _=>Z) ?_
 ·intro D env27 hA;exact zK [(8,false)] ⟨hA.me,trivial⟩ (Want.plain Z) (OpR.store 2 Z Z Z Z Z Z Z Z) (fun x=>Z) (fun x=>Z)
 exact trivial
theorem law16_Hide_cx1 {a0:List UInt8} {a1:Int} {res:grid_Grid × ref11_Grid × Bool × (List UInt8)} (h0:wg a0 a1=some (Sum.inl res)):zo X 49 [.val (.string (bs a0)),.val (.int .u64 a1)] [] (fun x=>.tup [.agg [(eOP res.1.fRows.fRoot),dT res.1.fTail,dN res.1.fEnd],dP (blk (vn x 0)),.agg [.sl 3 (List.map zl res.2.1.fRows),dT res.2.1.fTail,dN res.2.1.fEnd],dT res.2.2.1]) (fun x=>[.var (blk (vn x 0)) [.val (vn x 1)] 264,.row (vn x 1) (lB res.2.2.2) 1 5]):=law16_Hide_c h0
theorem law16_Hide_cx2 {a0:List UInt8} {a1:Int} {res:grid_Grid × ref11_Grid} (h0:wg a0 a1=some (Sum.inr res)):zo X 49 [.val (.string (bs a0)),.val (.int .u64 a1)] [] (fun x=>.tup [.agg [(eOP res.1.fRows.fRoot),dT res.1.fTail,dN res.1.fEnd],dQ,.agg [.sl 3 (List.map zl res.2.fRows),dT res.2.fTail,dN res.2.fEnd],dT false]) (fun x=>[]):=law16_Hide_c h0
noncomputable def wA.l1 (a0:List ref16_By) (s6:Int × (List order_By) × (List ref16_By)):Option (Lp (Int × (List order_By) × (List ref16_By)) ((List order_By) × (List ref16_By))):=
 if s6.1<(a0.length:Int) then
 bnd (idx a0 s6.1) fun x15=>
 bnd (if s6.1<4 then
 bnd (app 16 s6.2.1 [(⟨x15.fCol,x15.fDown⟩:order_By)]) fun x21=>
 bnd (app 16 s6.2.2 [x15]) fun x23=>
 some (x21,x23)
else
 some (s6.2.1,s6.2.2):Option ((List order_By) × (List ref16_By))) fun t17=>
 some (Lp.next (w64 (s6.1+1),t17.1,t17.2))
else
 some (Lp.done (s6.2.1,s6.2.2))
noncomputable def wA (a0:List ref16_By):Option ((List order_By) × (List ref16_By)):=
 bnd (loop (wA.l1 a0) (0,[],[]):Option ((List order_By) × (List ref16_By))) fun t1=>
 some (t1.1,t1.2)
theorem law16_Keys_c {a0:List ref16_By} {res:(List order_By) × (List ref16_By)} (h0:wA a0=some res):zo X 54 [.sl 2 (List.map yv a0)] [] (fun x=>.tup [.sl 2 (List.map zg res.1),.sl 2 (List.map yv res.2)]) (fun x=>[]):=by
 unfold wA at h0;refine zb (X:=X) Z Tryz.func54 Z Z Tryz.ntmps54 Z Z ?_;refine aS ?_;iterate 2 refine aA rfl rfl ?_
 refine aN Z ?_;refine aS ?_;refine aA Z Z ?_;refine aN Z ?_;refine aS ?_;refine aA Z Z ?_;refine aN Z ?_;refine T.seq ?_;refine aS ?_;refine aA Z Z ?_;refine z6 (zk (OpR.pure Z) (xn (w9 _ _))) Z ?_;refine aA Z Z ?_;refine aN Z ?_;obtain⟨t1,ht1,h0⟩:=bS h0;refine zA (fun S'=>∃ y2:Value,∃ y3:Value,S'=⟨[(5,.val y3),(4,.val y2),(3,.val (.slice none 0 0)),(2,.val (.slice none 0 0))],[.row y2 (List.map zg t1.1) 2 97,.row y3 (List.map yv t1.2) 2 189],32⟩) (fun _ h=>h) ?_ ?_;rotate_left
 ·rintro _ ⟨y2,y3,rfl⟩;show T X _ _ _;refine aS ?_;iterate 4 refine aA rfl rfl ?_
  refine aN Z ?_;refine T.ret ?_;obtain rfl:=osi h0;exact zE (ks:=[]) (Gst.trans (Gst.only [2,3] Z) (Gst.trans (zC 0 Z Z (ReS.cons Re.refl (ReS.cons (Re.base .all) ReS.nil)) (ReO.same (ReO.same ReO.nil))) (Gst.trans (zC 1 Z Z (ReS.cons (Re.base .all) (ReS.cons Re.refl ReS.nil)) (ReO.same (ReO.same ReO.nil))) (Gst.pick [] Z Z)))) undef (cT Z (cT Z ResL.nil)) Z Z Z Z
 refine T.block ?_;obtain⟨n7,n12⟩:=zy ht1;refine T.loop (fun n S'=>∃ S'',Gst S' S''∧∃ y4:Value,∃ y5:Value,∃ s6:Int × (List order_By) × (List ref16_By),S''=⟨[(10,(dN s6.1)),(9,(dN (a0.length:Int))),(8,.sl 2 (List.map yv a0)),(5,.val y5),(4,.val y4),(3,.val (.slice none 0 0)),(2,.val (.slice none 0 0))],[.row y4 (List.map zg s6.2.1) 2 97,.row y5 (List.map yv s6.2.2) 2 189],32⟩∧wo (wA.l1 a0) n s6=some t1) n7 ?_ ?_
 ·exact⟨_,Gst.trans (Gst.only [2,3,4,5,8,9,10] Z) (Gst.trans (ye (ow:=[]) 2 97 Z) (ye (ow:=[.row (.slice none 0 0) (List.map zg []) 2 97]) 2 189 Z)),(.slice none 0 0),(.slice none 0 0),(0,[],[]),Z,n12⟩
 rintro n7 _ ⟨_,g,y4,y5,s6,rfl,i11⟩;refine T.ghost g ?_;obtain⟨m8,q9,rfl,q10,i11⟩:=zz i11;unfold wA.l1 at q10;refine aS ?_;refine aA Z Z ?_;refine aN Z ?_;refine T.seq ?_;rcases z9 q10 with ⟨c14,q10⟩|⟨c14,q10⟩;rotate_left
 ·refine ze Z (eF c14) ?_;refine T.exit ?_;obtain rfl:=osi q10;obtain rfl:_=_:=i11;exact⟨_,Gst.only [2,3,4,5] Z,y4,y5,Z⟩
 refine zf Z (eT c14) ?_;refine aK Z ?_;refine T.seq ?_;refine T.block ?_;refine aS ?_;refine aA Z Z ?_;obtain⟨x15,hx15,q10⟩:=bS q10;refine z6 (zp yv hx15 Z Z Z Z Z) Z ?_;refine aA Z Z ?_;refine TL.op (OpR.alloc Z Z (fun _=>Z)) Z (fun p16=>?_);refine aA Z Z ?_;refine zv (OpR.store 2 Z Z Z Z Z Z Z Z) ?_;refine aN Z ?_;refine aS ?_;iterate 2 refine aA rfl rfl ?_
 refine aN Z ?_;obtain⟨t17,ht17,q10⟩:=bS q10;refine zA (fun S'=>∃ y18:Value,∃ y19:Value,S'=⟨[(10,(dN s6.1)),(9,(dN (a0.length:Int))),(8,.sl 2 (List.map yv a0)),(5,.val y19),(4,.val y18),(3,.val (.slice none 0 0)),(2,.val (.slice none 0 0))],[.row y18 (List.map zg t17.1) 2 97,.row y19 (List.map yv t17.2) 2 189],32⟩) (fun _ h=>h) ?_ ?_;rotate_left
 ·rintro _ ⟨y18,y19,rfl⟩;show T X _ _ _;refine T.region ?_;iterate 2 refine aA rfl rfl ?_
  refine TL.nil ?_;obtain rfl:=osi q10;exact⟨m8,Nat.lt_succ_self _,_,Gst.only [2,3,4,5,8,9,10] Z,y18,y19,(w64 (s6.1+1),t17.1,t17.2),Z,i11⟩
 rcases z9 ht17 with ⟨c20,ht17⟩|⟨c20,ht17⟩;rotate_left
 ·refine ze Z (eF c20) ?_;refine T.skip ?_;obtain rfl:=osi ht17;exact⟨_,gP [2,3,4,5,8,9,10] [0,1] Z Z Z,y4,y5,Z⟩
 refine zf Z (eT c20) ?_;refine aS ?_;iterate 2 refine aA rfl rfl ?_
 refine z6 (z7 2 Z Z Z Z) Z ?_;refine aA Z Z ?_;refine z6 (z7 2 Z Z Z Z) Z ?_;refine z6 (OpR.build Z Z Z Z Z) Z ?_;refine z6 (yN Z Z Z Z Z Z Z) Z ?_;obtain⟨x21,hx21,ht17⟩:=bS ht17;refine TL.op (zM (m:=[(⟨x15.fCol,x15.fDown⟩:order_By)]) zg 0 hx21 Z Z Z Z Z Z Z Z Z (fun _=>Z)) Z (fun v22=>?_);refine aA Z Z ?_;refine aN Z ?_;refine T.region ?_;refine aA Z Z ?_;refine z6 (z7 2 Z Z Z Z) Z ?_;refine z6 (yN Z Z Z Z Z Z Z) Z ?_;obtain⟨x23,hx23,ht17⟩:=bS ht17;refine TL.op (zM (m:=[x15]) yv 1 hx23 Z Z Z Z Z Z Z Z Z (fun _=>Z)) Z (fun v24=>?_);refine aA Z Z ?_;refine TL.nil ?_;obtain rfl:=osi ht17;exact⟨_,gP [2,3,4,5,8,9,10] [0,1] Z Z Z,v22,v24,Z⟩
noncomputable def wi.l1 (a0:List ref16_By) (s3:Int):Option (Lp Int (Ex Unit Bool)):=
 if s3<(a0.length:Int) then
 bnd (idx a0 s3) fun x12=>
 bnd (if x12.fCol<0 then
 some true
else
 some (decide (x12.fCol>39)):Option Bool) fun t14=>
 if t14=true then
 some (Lp.done (Ex.ret false))
else
 some (Lp.next (w64 (s3+1)))
else
 some (Lp.done (Ex.brk ()))
noncomputable def wi (a0:List ref16_By):Option Bool:=
 bnd (loop (wi.l1 a0) 0:Option (Ex Unit Bool)) fun t1=>match t1 with
| .brk u2=>
 some (decide ((a0.length:Int)>0))
| .ret u2=>some u2
theorem ref16_Right_c {a0:List ref16_By} {res:Bool} (h0:wi a0=some res):zo X 57 [.sl 2 (List.map yv a0)] [] (fun x=>(dT res)) (fun x=>[]):=by
 unfold wi at h0;refine zb (X:=X) Z Tryz.func57 Z Z Tryz.ntmps57 Z Z ?_;refine aS ?_;refine aA Z Z ?_;refine aN Z ?_;refine T.seq ?_;refine aS ?_;refine aA Z Z ?_;refine z6 (zk (OpR.pure Z) (xn (w9 _ _))) Z ?_;refine aA Z Z ?_;refine aN Z ?_;obtain⟨t1,ht1,h0⟩:=bS h0;refine zA (fun S'=>∃ u2,t1=Ex.brk u2∧S'=⟨[(2,(dT false)),(0,.sl 2 (List.map yv a0))],[],23⟩) (fun _ h=>h) ?_ ?_;rotate_left
 ·rintro _ ⟨u2,rfl,rfl⟩;show T X _ _ _;refine aS ?_;refine aA Z Z ?_;refine z6 (zk (OpR.pure Z) (xn (w9 _ _))) Z ?_;iterate 2 refine aA rfl rfl ?_
  refine aN Z ?_;refine T.ret ?_;obtain rfl:=osi h0;exact rO [] [2] Z undef (cT Z ResL.nil) Z Z Z Z
 refine T.block ?_;obtain⟨n4,n9⟩:=zy ht1;refine T.loop (fun n S'=>∃ S'',Gst S' S''∧∃ s3:Int,S''=⟨[(7,(dN s3)),(6,(dN (a0.length:Int))),(5,.sl 2 (List.map yv a0)),(2,(dT false)),(0,.sl 2 (List.map yv a0))],[],23⟩∧wo (wi.l1 a0) n s3=some t1) n4 ?_ ?_
 ·exact⟨_,Gst.only [0,2,5,6,7] Z,0,Z,n9⟩
 rintro n4 _ ⟨_,g,s3,rfl,i8⟩;refine T.ghost g ?_;obtain⟨m5,q6,rfl,q7,i8⟩:=zz i8;unfold wi.l1 at q7;refine aS ?_;refine aA Z Z ?_;refine aN Z ?_;refine T.seq ?_;rcases z9 q7 with ⟨c11,q7⟩|⟨c11,q7⟩;rotate_left
 ·refine ze Z (eF c11) ?_;refine T.exit ?_;obtain rfl:=osi q7;obtain rfl:_=_:=i8;exact⟨_,Gst.only [0,2] Z,_,Z,Z⟩
 refine zf Z (eT c11) ?_;refine aK Z ?_;refine T.seq ?_;refine T.block ?_;refine aS ?_;obtain⟨x12,hx12,q7⟩:=bS q7;refine z6 (zp yv hx12 Z Z Z Z Z) Z ?_;refine aA Z Z ?_;refine TL.op (OpR.alloc Z Z (fun _=>Z)) Z (fun p13=>?_);refine zv (OpR.store 0 Z Z Z Z Z Z Z Z) ?_;refine aN Z ?_;refine T.seq ?_;obtain⟨t14,ht14,q7⟩:=bS q7;refine zA (fun S'=>S'=⟨[(18,(dT t14)),(7,(dN s3)),(6,(dN (a0.length:Int))),(5,.sl 2 (List.map yv a0)),(2,(dT false)),(0,.sl 2 (List.map yv a0))],[],23⟩) (fun _ h=>h) ?_ ?_;rotate_left
 ·rintro _ rfl;show T X _ _ _;rcases z9 q7 with ⟨c16,q7⟩|⟨c16,q7⟩;rotate_left
  ·refine ze Z (eN c16) ?_;refine aK Z ?_;refine T.region ?_;iterate 2 refine aA rfl rfl ?_
   refine TL.nil ?_;obtain rfl:=osi q7;exact⟨m5,Nat.lt_succ_self _,_,Gst.only [0,2,5,6,7] Z,w64 (s3+1),Z,i8⟩
  refine zf Z (c16) ?_;refine aS ?_;refine aA Z Z ?_;refine aN Z ?_;refine T.ret ?_;obtain rfl:=osi q7;obtain rfl:_=_:=i8;obtain rfl:=osi h0;exact rO [] [2] Z undef (cT Z ResL.nil) Z Z Z Z
 refine T.region ?_;refine aA Z Z ?_;refine z6 (z7 0 Z Z Z Z) Z ?_;iterate 2 refine aA rfl rfl ?_
 rcases z9 ht14 with ⟨c15,ht14⟩|⟨c15,ht14⟩
 ·refine TL.off Z Z Z Z (eT c15) Z Z ?_;refine TL.off Z Z Z Z (eT c15) Z Z ?_;refine TL.off Z Z Z Z (eT c15) Z Z ?_;refine z6 (zt Z (eT c15) Z) Z ?_;refine TL.nil ?_;obtain rfl:=osi ht14;exact⟨_,gP [0,2,5,6,7,18] [] Z Z Z,Z⟩
 refine TL.on Z Z Z Z (eF c15) ?_;refine aA Z Z ?_;refine TL.on Z Z Z Z (eF c15) ?_;refine z6 (z7 0 Z Z Z Z) Z ?_;refine TL.on Z Z Z Z (eF c15) ?_;refine aA Z Z ?_;refine z6 (zx Z (eF c15) Z) Z ?_;refine TL.nil ?_;obtain rfl:=osi ht14;exact⟨_,gP [0,2,5,6,7,18] [] Z Z Z,Z⟩
noncomputable def uW (a0:order_By):Option Bool:=
 bnd (if a0.fCol<0 then
 some true
else
 some (decide (a0.fCol≥40)):Option Bool) fun t1=>
 some t1
theorem order_Right_1_c {a0:order_By} {res:Bool} (h0:uW a0=some res):zo X 124 [.agg [dN a0.fCol,dT a0.fDown]] [] (fun x=>(dT res)) (fun x=>[]):=by
 unfold uW at h0;refine zb (X:=X) Z Tryz.func124 Z Z Tryz.ntmps124 Z Z ?_;refine aS ?_;refine z6 (zD Z Z) Z ?_;refine aA Z Z ?_;refine aN Z ?_;refine T.seq ?_;obtain⟨t1,ht1,h0⟩:=bS h0;refine zA (fun S'=>S'=⟨[(2,(dT t1))],[],11⟩) (fun _ h=>h) ?_ ?_;rotate_left
 ·rintro _ rfl;show T X _ _ _;refine T.ret ?_;obtain rfl:=osi h0;exact rO [] [2] Z undef (cT Z ResL.nil) Z Z Z Z
 refine T.region ?_;iterate 4 refine aA rfl rfl ?_
 rcases z9 ht1 with ⟨c2,ht1⟩|⟨c2,ht1⟩
 ·refine TL.off Z Z Z Z (eT c2) Z Z ?_;refine TL.off Z Z Z Z (eT c2) Z Z ?_;refine TL.off Z Z Z Z (eT c2) Z Z ?_;refine z6 (zt Z (eT c2) Z) Z ?_;refine aA Z Z ?_;refine TL.nil ?_;obtain rfl:=osi ht1;exact⟨_,Gst.only [2] Z,Z⟩
 refine TL.on Z Z Z Z (eF c2) ?_;refine aA Z Z ?_;refine TL.on Z Z Z Z (eF c2) ?_;refine aA Z Z ?_;refine TL.on Z Z Z Z (eF c2) ?_;refine aA Z Z ?_;refine z6 (zx Z (eF c2) Z) Z ?_;refine aA Z Z ?_;refine TL.nil ?_;obtain rfl:=osi ht1;exact⟨_,Gst.only [2] Z,Z⟩
noncomputable def zF.l1 (a0:List order_By) (s3:Int):Option (Lp Int (Ex Unit Int)):=
 if s3<(a0.length:Int) then
 bnd (idx a0 s3) fun x12=>
 bnd (uW x12) fun x13=>
 if x13=true then
 some (Lp.done (Ex.ret s3))
else
 some (Lp.next (w64 (s3+1)))
else
 some (Lp.done (Ex.brk ()))
noncomputable def zF (a0:List order_By):Option Int:=
 bnd (loop (zF.l1 a0) 0:Option (Ex Unit Int)) fun t1=>match t1 with
| .brk u2=>
 some (-1)
| .ret u2=>some u2
theorem uA {a0:List order_By} {res:Int} (h0:zF a0=some res):zo X 188 [.sl 2 (List.map zg a0),.fn (.func 124) [] []] [] (fun x=>(dN res)) (fun x=>[]):=by
 unfold zF at h0;refine zb (X:=X) Z Tryz.func188 Z Z Tryz.ntmps188 Z Z ?_;refine aS ?_;refine aA Z Z ?_;refine aN Z ?_;refine T.seq ?_;refine aS ?_;refine aA Z Z ?_;refine z6 (zk (OpR.pure Z) (xn (w9 _ _))) Z ?_;refine aA Z Z ?_;refine aN Z ?_;obtain⟨t1,ht1,h0⟩:=bS h0;refine zA (fun S'=>∃ u2,t1=Ex.brk u2∧S'=⟨[(4,(dN 0))],[],19⟩) (fun _ h=>h) ?_ ?_;rotate_left
 ·rintro _ ⟨u2,rfl,rfl⟩;show T X _ _ _;refine aS ?_;refine aA Z Z ?_;refine aN Z ?_;refine T.ret ?_;obtain rfl:=osi h0;exact rO [] [4] Z undef (cT Z ResL.nil) Z Z Z Z
 refine T.block ?_;obtain⟨n4,n9⟩:=zy ht1;refine T.loop (fun n S'=>∃ S'',Gst S' S''∧∃ s3:Int,S''=⟨[(8,(dN s3)),(7,(dN (a0.length:Int))),(4,(dN 0)),(1,.fn (.func 124) [] []),(0,.sl 2 (List.map zg a0))],[],19⟩∧wo (zF.l1 a0) n s3=some t1) n4 ?_ ?_
 ·exact⟨_,Gst.only [0,1,4,7,8] Z,0,Z,n9⟩
 rintro n4 _ ⟨_,g,s3,rfl,i8⟩;refine T.ghost g ?_;obtain⟨m5,q6,rfl,q7,i8⟩:=zz i8;unfold zF.l1 at q7;refine aS ?_;refine aA Z Z ?_;refine aN Z ?_;refine T.seq ?_;rcases z9 q7 with ⟨c11,q7⟩|⟨c11,q7⟩;rotate_left
 ·refine ze Z (eF c11) ?_;refine T.exit ?_;obtain rfl:=osi q7;obtain rfl:_=_:=i8;exact⟨_,Gst.only [4] Z,_,Z,Z⟩
 refine zf Z (eT c11) ?_;refine aK Z ?_;refine T.seq ?_;refine T.block ?_;refine aS ?_;iterate 2 refine aA rfl rfl ?_
 refine aN Z ?_;refine aS ?_;iterate 3 refine aA rfl rfl ?_
 obtain⟨x12,hx12,q7⟩:=bS q7;refine z6 (zp zg hx12 Z Z Z Z Z) Z ?_;refine aA Z Z ?_;obtain⟨x13,hx13,q7⟩:=bS q7;refine z6 (vX [] Z fn124 (order_Right_1_c hx13) Z Z Z (fun _=>Z)) Z ?_;refine aN Z ?_;rcases z9 q7 with ⟨c14,q7⟩|⟨c14,q7⟩;rotate_left
 ·refine ze Z (eN c14) ?_;refine aK Z ?_;refine T.region ?_;iterate 2 refine aA rfl rfl ?_
  refine TL.nil ?_;obtain rfl:=osi q7;exact⟨m5,Nat.lt_succ_self _,_,Gst.only [0,1,4,7,8] Z,w64 (s3+1),Z,i8⟩
 refine zf Z (c14) ?_;refine aS ?_;iterate 2 refine aA rfl rfl ?_
 refine aN Z ?_;refine T.ret ?_;obtain rfl:=osi q7;obtain rfl:_=_:=i8;obtain rfl:=osi h0;exact rO [] [4] Z undef (cT Z ResL.nil) Z Z Z Z
noncomputable def yY (a0:List order_By):Option Bool:=
 bnd (zF a0) fun x1=>
 some (decide (x1≥0))
theorem ui {a0:List order_By} {res:Bool} (h0:yY a0=some res):zo X 125 [.sl 2 (List.map zg a0),.fn (.func 124) [] []] [] (fun x=>(dT res)) (fun x=>[]):=by
 unfold yY at h0;refine zb (X:=X) Z Tryz.func125 Z Z Tryz.ntmps125 Z Z ?_;refine aS ?_;refine aA Z Z ?_;refine aN Z ?_;refine aS ?_;iterate 2 refine aA rfl rfl ?_
 obtain⟨x1,hx1,h0⟩:=bS h0;refine z6 (zh fn188 (uA hx1) Z) Z ?_;iterate 2 refine aA rfl rfl ?_
 refine aN Z ?_;refine T.ret ?_;obtain rfl:=osi h0;exact rO [] [4] Z undef (cT Z ResL.nil) Z Z Z Z
noncomputable def uD (a0:List order_By):Option Bool:=
 bnd (if (a0.length:Int)>0 then
 bnd (yY a0) fun x3=>
 some (!x3)
else
 some false:Option Bool) fun t1=>
 some t1
theorem rF {a0:List order_By} {res:Bool} (h0:uD a0=some res):zo X 56 [.sl 2 (List.map zg a0)] [] (fun x=>(dT res)) (fun x=>[]):=by
 unfold uD at h0;refine zb (X:=X) Z Tryz.func56 Z Z Tryz.ntmps56 Z Z ?_;refine aS ?_;refine aA Z Z ?_;refine aN Z ?_;refine aS ?_;refine aA Z Z ?_;refine aN Z ?_;refine T.seq ?_;obtain⟨t1,ht1,h0⟩:=bS h0;refine zA (fun S'=>S'=⟨[(2,(dT t1))],[],13⟩) (fun _ h=>h) ?_ ?_;rotate_left
 ·rintro _ rfl;show T X _ _ _;refine T.ret ?_;obtain rfl:=osi h0;exact rO [] [2] Z undef (cT Z ResL.nil) Z Z Z Z
 refine T.region ?_;refine aA Z Z ?_;refine z6 (zk (OpR.pure Z) (xn (w9 _ _))) Z ?_;iterate 2 refine aA rfl rfl ?_
 rcases z9 ht1 with ⟨c2,ht1⟩|⟨c2,ht1⟩;rotate_left
 ·refine TL.off Z Z Z Z (eF c2) Z Z ?_;refine TL.off Z Z Z Z (eF c2) Z Z ?_;refine TL.off Z Z Z Z (eF c2) Z Z ?_;refine TL.off Z Z Z Z (eF c2) Z Z ?_;refine z6 (zx Z (eF c2) Z) Z ?_;refine aA Z Z ?_;refine TL.nil ?_;obtain rfl:=osi ht1;exact⟨_,Gst.only [2] Z,Z⟩
 refine TL.on Z Z Z Z (eT c2) ?_;refine aA Z Z ?_;refine TL.on Z Z Z Z (eT c2) ?_;refine aA Z Z ?_;refine TL.on Z Z Z Z (eT c2) ?_;obtain⟨x3,hx3,ht1⟩:=bS ht1;refine z6 (zh fn125 (ui hx3) Z) Z ?_;refine TL.on Z Z Z Z (eT c2) ?_;refine aA Z Z ?_;refine z6 (zt Z (eT c2) Z) Z ?_;refine aA Z Z ?_;refine TL.nil ?_;obtain rfl:=osi ht1;exact⟨_,Gst.only [2] Z,Z⟩
noncomputable def wG (a0:tTr) (a1:Int) (a2:Int):Option (Int × Int):=
 bnd (yE a0) fun x1=>
 bnd (some (if x1<(if 0>a1 then 0 else a1) then x1 else (if 0>a1 then 0 else a1))) fun x2=>
 bnd (yE a0) fun x3=>
 bnd (some (if x3<(if x2>a2 then x2 else a2) then x3 else (if x2>a2 then x2 else a2))) fun x4=>
 some (x2,x4)
theorem rT {a0:tTr} {a1:Int} {a2:Int} {res:Int × Int} (h0:wG a0 a1 a2=some res):zo X 145 [.agg [(eOP a0.fRoot)],dN a1,dN a2] [] (fun x=>.tup [dN res.1,dN res.2]) (fun x=>[]):=by
 unfold wG at h0;refine zb (X:=X) Z Tryz.func145 Z Z Tryz.ntmps145 Z Z ?_;refine aS ?_;refine z6 (zD Z Z) Z ?_;iterate 2 refine aA rfl rfl ?_
 refine aN Z ?_;refine aS ?_;iterate 3 refine aA rfl rfl ?_
 obtain⟨x1,hx1,h0⟩:=bS h0;refine z6 (zh fn79 (xA hx1) Z) Z ?_;obtain⟨x2,hx2,h0⟩:=bS h0;refine z6 (zk (OpR.pure Z) (xn (osi hx2))) Z ?_;refine aA Z Z ?_;refine aN Z ?_;refine aS ?_;iterate 5 refine aA rfl rfl ?_
 obtain⟨x3,hx3,h0⟩:=bS h0;refine z6 (zh fn79 (xA hx3) Z) Z ?_;obtain⟨x4,hx4,h0⟩:=bS h0;refine z6 (zk (OpR.pure Z) (xn (osi hx4))) Z ?_;iterate 2 refine aA rfl rfl ?_
 refine aN Z ?_;refine T.ret ?_;obtain rfl:=osi h0;exact rO [] [6,7] Z undef (cT Z (cT Z ResL.nil)) Z Z Z Z
noncomputable def xF (a0:tTr) (a1:Int) (a2:Int):Option (Int × Int × (Option NP)):=
 bnd (wG a0 a1 a2) fun x4=>
 some (x4.1,x4.2,a0.fRoot)
theorem vx {a0:tTr} {a1:Int} {a2:Int} {res:Int × Int × (Option NP)} (h0:xF a0 a1 a2=some res):zo X 80 [.agg [(eOP a0.fRoot)],dN a1,dN a2] [] (fun x=>.fn (.func 146) [] [dP (blk (vn x 0)),dP (blk (vn x 1)),dP (blk (vn x 2))]) (fun x=>[.var (blk (vn x 0)) [dN res.1] 3,.var (blk (vn x 1)) [dN res.2.1] 3,.var (blk (vn x 2)) [(eOP res.2.2)] 25]):=by
 unfold xF at h0;refine zb (X:=X) Z Tryz.func80 Z Z Tryz.ntmps80 Z Z ?_;refine aS ?_;refine TL.op (xG Z Z (fun _=>Z)) Z (fun p1=>?_);refine TL.op (xG Z Z (fun _=>Z)) Z (fun p2=>?_);refine TL.op (xG Z Z (fun _=>Z)) Z (fun p3=>?_);refine aA Z Z ?_;refine aN Z ?_;refine aS ?_;refine z6 (z7 0 Z Z Z Z) Z ?_;refine z6 (z7 1 Z Z Z Z) Z ?_;refine z6 (z7 2 Z Z Z Z) Z ?_;obtain⟨x4,hx4,h0⟩:=bS h0;refine z6 (zh fn145 (rT hx4) Z) Z ?_;iterate 3 refine aA rfl rfl ?_
 refine zv (OpR.store 1 Z Z Z Z Z Z Z Z) ?_;refine zv (OpR.store 2 Z Z Z Z Z Z Z Z) ?_;refine aN Z ?_;refine aS ?_;iterate 2 refine aA rfl rfl ?_
 refine aN Z ?_;refine T.ret ?_;obtain rfl:=osi h0;exact rP [0,1,2] [6] [1,2,0] Z Z Z (.tuple #[p2,p3,p1]) (cT Z ResL.nil) Z Z Z Z
noncomputable def ym (a0:tTr):Option (Unit ⊕ ((List NP) × (List row_Row) × Int)):=
 bnd (some a0.fRoot) fun q1=>match q1 with
| none=>
 some (Sum.inl ())
| some z2=>
 bnd (vi z2) fun x3=>
 some (Sum.inr (x3.fKids,x3.fItems,x3.fN))
theorem uK {a0:tTr} {res:Unit ⊕ ((List NP) × (List row_Row) × Int)} (h0:ym a0=some res):zo X 148 [.agg [(eOP a0.fRoot)]] [] (fun x=>(match res with | .inl res=>dQ | .inr res=>.nod [.sl 1 (List.map eNP res.1),.sl 3 (List.map z8 res.2.1),dN res.2.2])) (fun x=>(match res with | .inl res=>[] | .inr res=>[])):=by
 unfold ym at h0;refine zb (X:=X) Z Tryz.func148 Z Z Tryz.ntmps148 Z Z ?_;refine aS ?_;refine z6 (zD Z Z) Z ?_;refine aA Z Z ?_;refine aN Z ?_;refine aS ?_;refine aA Z Z ?_;obtain⟨q1,hq1,h0⟩:=bS h0;rcases q1 with _|z2
 ·dsimp only at h0;refine z6 (zk (OpR.pure Z) (congrArg eOP (osi hq1))) Z ?_;refine aA Z Z ?_;refine aN Z ?_;refine T.ret ?_;obtain rfl:=osi h0;exact rO [] [2] Z undef (cT Z ResL.nil) Z Z Z Z
 dsimp only at h0;obtain⟨x3,hx3,h0⟩:=bS h0;rw[xf hx3] at hq1;refine z6 (zk (OpR.pure Z) (congrArg eOP (osi hq1))) Z ?_;refine aA Z Z ?_;refine aN Z ?_;refine T.ret ?_;obtain rfl:=osi h0;exact rO [] [2] Z undef (cT Z ResL.nil) Z Z Z Z
theorem tree_Tree_row_Row_Root_cx1 {a0:tTr} {res:Unit} (h0:ym a0=some (Sum.inl res)):zo X 148 [.agg [(eOP a0.fRoot)]] [] (fun x=>dQ) (fun x=>[]):=uK h0
theorem wb {a0:tTr} {res:(List NP) × (List row_Row) × Int} (h0:ym a0=some (Sum.inr res)):zo X 148 [.agg [(eOP a0.fRoot)]] [] (fun x=>.nod [.sl 1 (List.map eNP res.1),.sl 3 (List.map z8 res.2.1),dN res.2.2]) (fun x=>[]):=uK h0
noncomputable def zJ.l1 (a4:Int) (s4:(List NP) × (List row_Row) × Int × Int × (List wFr)) (s14:Int × Int):Option (Lp (Int × Int) (Int × Int)):=
 bnd (if s14.2<(w64 ((s4.1.length:Int)-1)) then
 bnd (idx s4.1 s14.2) fun x24=>
 bnd (vi x24) fun x25=>
 some (decide (a4≥(w64 (s14.1+x25.fN))))
else
 some false:Option Bool) fun t22=>
 if t22=true then
 bnd (idx s4.1 s14.2) fun x27=>
 bnd (vi x27) fun x28=>
 some (Lp.next (w64 (s14.1+x28.fN),w64 (s14.2+1)))
else
 some (Lp.done (s14.1,s14.2))
noncomputable def zJ.l2 (a4:Int) (s4:(List NP) × (List row_Row) × Int × Int × (List wFr)):Option (Lp ((List NP) × (List row_Row) × Int × Int × (List wFr)) ((List NP) × (List row_Row) × Int × Int × (List wFr))):=
 if (s4.1.length:Int)>0 then
 bnd (loop (zJ.l1 a4 s4) (s4.2.2.2.1,0):Option (Int × Int)) fun t13=>
 bnd (app 24 s4.2.2.2.2 [(⟨(some (yM (⟨s4.1,s4.2.1,s4.2.2.1⟩:tNd))),t13.1,t13.2⟩:wFr)]) fun x29=>
 bnd (idx s4.1 t13.2) fun x31=>
 bnd (vi x31) fun x32=>
 some (Lp.next (x32.fKids,x32.fItems,x32.fN,t13.1,x29))
else
 some (Lp.done (s4.1,s4.2.1,s4.2.2.1,s4.2.2.2.1,s4.2.2.2.2))
noncomputable def zJ (a0:List NP) (a1:List row_Row) (a2:Int) (a3:Int) (a4:Int):Option (List wFr):=
 bnd (loop (zJ.l2 a4) (a0,a1,a2,a3,[]):Option ((List NP) × (List row_Row) × Int × Int × (List wFr))) fun t1=>
 bnd (app 24 t1.2.2.2.2 [(⟨(some (yM (⟨t1.1,t1.2.1,t1.2.2.1⟩:tNd))),t1.2.2.2.1,w64 (a4-t1.2.2.2.1)⟩:wFr)]) fun x33=>
 some x33
theorem wt {a0:List NP} {a1:List row_Row} {a2:Int} {a3:Int} {a4:Int} {b0:Nat} {res:(List wFr)} (h0:zJ a0 a1 a2 a3 a4=some res):zo X 147 [dP b0,.nod [.sl 1 (List.map eNP a0),.sl 3 (List.map z8 a1),dN a2],dN a3,dN a4] [.var b0 [.val (.slice none 0 0)] 228] (fun x=>.tup []) (fun x=>[.var b0 [.val (vn x 0)] 228,.row (vn x 0) (List.map yF res) 3 234]):=by
 unfold zJ at h0;refine zb (X:=X) Z Tryz.func147 Z Z Tryz.ntmps147 Z Z ?_;refine T.seq ?_;obtain⟨t1,ht1,h0⟩:=bS h0;refine zA (fun S'=>∃ y2:Value,S'=⟨[(3,(dN a4)),(2,(dN t1.2.2.2.1)),(1,.nod [.sl 1 (List.map eNP t1.1),.sl 3 (List.map z8 t1.2.1),dN t1.2.2.1]),(0,(dP b0))],[.var b0 [.val y2] 228,.row y2 (List.map yF t1.2.2.2.2) 3 234],88⟩) (fun _ h=>h) ?_ ?_;rotate_left
 ·rintro _ ⟨y2,rfl⟩;show T X _ _ _;refine T.region ?_;iterate 4 refine aA rfl rfl ?_
  refine z6 (z7 0 Z Z Z Z) Z ?_;iterate 5 refine aA rfl rfl ?_
  refine z6 (OpR.build Z Z Z Z Z) Z ?_;refine z6 (yN Z Z Z Z Z Z Z) Z ?_;obtain⟨x33,hx33,h0⟩:=bS h0;refine TL.op (zM (m:=[(⟨(some (yM (⟨t1.1,t1.2.1,t1.2.2.1⟩:tNd))),t1.2.2.2.1,w64 (a4-t1.2.2.2.1)⟩:wFr)]) yF 1 hx33 Z Z Z Z Z Z Z Z Z (fun _=>Z)) Z (fun v34=>?_);iterate 2 refine aA rfl rfl ?_
  refine zv (OpR.store 0 Z Z Z Z Z Z Z Z) ?_;refine TL.nil ?_;obtain rfl:=osi h0;exact xg (ks:=[0,1]) (Gst.only [] Z) (.tuple #[v34]) ResL.nil Z Z Z Z
 refine T.block ?_;obtain⟨n5,n10⟩:=zy ht1;refine T.loop (fun n S'=>∃ S'',Gst S' S''∧∃ y3:Value,∃ s4:(List NP) × (List row_Row) × Int × Int × (List wFr),S''=⟨[(3,(dN a4)),(2,(dN s4.2.2.2.1)),(1,.nod [.sl 1 (List.map eNP s4.1),.sl 3 (List.map z8 s4.2.1),dN s4.2.2.1]),(0,(dP b0))],[.var b0 [.val y3] 228,.row y3 (List.map yF s4.2.2.2.2) 3 234],88⟩∧wo (zJ.l2 a4) n s4=some t1) n5 ?_ ?_
 ·exact⟨_,Gst.trans (Gst.only [0,1,2,3] Z) (ye (ow:=[.var b0 [.val (.slice none 0 0)] 228]) 3 234 Z),(.slice none 0 0),(a0,a1,a2,a3,[]),Z,n10⟩
 rintro n5 _ ⟨_,g,y3,s4,rfl,i9⟩;refine T.ghost g ?_;obtain⟨m6,q7,rfl,q8,i9⟩:=zz i9;unfold zJ.l2 at q8;refine T.seq ?_;refine aS ?_;iterate 4 refine aA rfl rfl ?_
 refine z6 (zk (OpR.pure Z) (xn (w9 _ _))) Z ?_;refine aA Z Z ?_;refine aN Z ?_;rcases z9 q8 with ⟨c12,q8⟩|⟨c12,q8⟩;rotate_left
 ·refine ze Z (eF c12) ?_;refine T.exit ?_;obtain rfl:=osi q8;obtain rfl:_=_:=i9;exact⟨_,Gst.only [0,1,2,3] Z,y3,Z⟩
 refine zf Z (eT c12) ?_;refine aK Z ?_;refine T.block ?_;refine aS ?_;refine aA Z Z ?_;refine aN Z ?_;refine T.seq ?_;obtain⟨t13,ht13,q8⟩:=bS q8;refine zA (fun S'=>S'=⟨[(8,(dN t13.2)),(3,(dN a4)),(2,(dN t13.1)),(1,.nod [.sl 1 (List.map eNP s4.1),.sl 3 (List.map z8 s4.2.1),dN s4.2.2.1]),(0,(dP b0))],[.var b0 [.val y3] 228,.row y3 (List.map yF s4.2.2.2.2) 3 234],88⟩) (fun _ h=>h) ?_ ?_;rotate_left
 ·rintro _ rfl;show T X _ _ _;refine aS ?_;iterate 4 refine aA rfl rfl ?_
  refine z6 (z7 0 Z Z Z Z) Z ?_;iterate 3 refine aA rfl rfl ?_
  refine z6 (OpR.build Z Z Z Z Z) Z ?_;refine z6 (yN Z Z Z Z Z Z Z) Z ?_;obtain⟨x29,hx29,q8⟩:=bS q8;refine TL.op (zM (m:=[(⟨(some (yM (⟨s4.1,s4.2.1,s4.2.2.1⟩:tNd))),t13.1,t13.2⟩:wFr)]) yF 1 hx29 Z Z Z Z Z Z Z Z Z (fun _=>Z)) Z (fun v30=>?_);iterate 2 refine aA rfl rfl ?_
  refine zv (OpR.store 0 Z Z Z Z Z Z Z Z) ?_;refine aN Z ?_;refine T.region ?_;iterate 5 refine aA rfl rfl ?_
  obtain⟨x31,hx31,q8⟩:=bS q8;obtain⟨x32,hx32,q8⟩:=bS q8;rw[xf hx32] at hx31;refine z6 (zp eNP hx31 Z Z Z Z Z) Z ?_;iterate 2 refine aA rfl rfl ?_
  refine TL.nil ?_;obtain rfl:=osi q8;exact⟨m6,Nat.lt_succ_self _,_,Gst.only [0,1,2,3] Z,v30,(x32.fKids,x32.fItems,x32.fN,t13.1,x29),Z,i9⟩
 refine T.block ?_;obtain⟨n15,n20⟩:=zy ht13;refine T.loop (fun n S'=>∃ S'',Gst S' S''∧∃ s14:Int × Int,S''=⟨[(8,(dN s14.2)),(3,(dN a4)),(2,(dN s14.1)),(1,.nod [.sl 1 (List.map eNP s4.1),.sl 3 (List.map z8 s4.2.1),dN s4.2.2.1]),(0,(dP b0))],[.var b0 [.val y3] 228,.row y3 (List.map yF s4.2.2.2.2) 3 234],88⟩∧wo (zJ.l1 a4 s4) n s14=some t13) n15 ?_ ?_
 ·exact⟨_,Gst.only [0,1,2,3,8] Z,(s4.2.2.2.1,0),Z,n20⟩
 rintro n15 _ ⟨_,g,s14,rfl,i19⟩;refine T.ghost g ?_;obtain⟨m16,q17,rfl,q18,i19⟩:=zz i19;unfold zJ.l1 at q18;refine T.seq ?_;refine T.seq ?_;obtain⟨t22,ht22,q18⟩:=bS q18;refine zA (fun S'=>S'=⟨[(38,(dT t22)),(8,(dN s14.2)),(3,(dN a4)),(2,(dN s14.1)),(1,.nod [.sl 1 (List.map eNP s4.1),.sl 3 (List.map z8 s4.2.1),dN s4.2.2.1]),(0,(dP b0))],[.var b0 [.val y3] 228,.row y3 (List.map yF s4.2.2.2.2) 3 234],88⟩) (fun _ h=>h) ?_ ?_;rotate_left
 ·rintro _ rfl;show T X _ _ _;rcases z9 q18 with ⟨c26,q18⟩|⟨c26,q18⟩;rotate_left
  ·refine ze Z (eN c26) ?_;refine T.exit ?_;obtain rfl:=osi q18;obtain rfl:_=_:=i19;exact⟨_,Gst.only [0,1,2,3,8] Z,Z⟩
  refine zf Z (c26) ?_;refine aK Z ?_;refine T.block ?_;refine aS ?_;iterate 6 refine aA rfl rfl ?_
  obtain⟨x27,hx27,q18⟩:=bS q18;obtain⟨x28,hx28,q18⟩:=bS q18;rw[xf hx28] at hx27;refine z6 (zp eNP hx27 Z Z Z Z Z) Z ?_;iterate 6 refine aA rfl rfl ?_
  refine aN Z ?_;refine T.region ?_;iterate 3 refine aA rfl rfl ?_
  refine TL.nil ?_;obtain rfl:=osi q18;exact⟨m16,Nat.lt_succ_self _,_,Gst.only [0,1,2,3,8] Z,(w64 (s14.1+x28.fN),w64 (s14.2+1)),Z,i19⟩
 refine T.region ?_;iterate 5 refine aA rfl rfl ?_
 refine z6 (zk (OpR.pure Z) (xn (w9 _ _))) Z ?_;iterate 3 refine aA rfl rfl ?_
 rcases z9 ht22 with ⟨c23,ht22⟩|⟨c23,ht22⟩;rotate_left
 ·refine TL.off Z Z Z Z (eF c23) Z Z ?_;refine TL.off Z Z Z Z (eF c23) Z Z ?_;refine TL.off Z Z Z Z (eF c23) Z Z ?_;refine TL.off Z Z Z Z (eF c23) Z Z ?_;refine TL.off Z Z Z Z (eF c23) Z Z ?_;refine TL.off Z Z Z Z (eF c23) Z Z ?_;refine TL.off Z Z Z Z (eF c23) Z Z ?_;refine TL.off Z Z Z Z (eF c23) Z Z ?_;refine TL.off Z Z Z Z (eF c23) Z Z ?_;refine TL.off Z Z Z Z (eF c23) Z Z ?_;refine TL.off Z Z Z Z (eF c23) Z Z ?_;refine TL.off Z Z Z Z (eF c23) Z Z ?_;refine TL.off Z Z Z Z (eF c23) Z Z ?_;refine TL.off Z Z Z Z (eF c23) Z Z ?_;refine z6 (zx Z (eF c23) Z) Z ?_;refine TL.nil ?_;obtain rfl:=osi ht22;exact⟨_,Gst.only [0,1,2,3,8,38] Z,Z⟩
 refine TL.on Z Z Z Z (eT c23) ?_;refine aA Z Z ?_;refine TL.on Z Z Z Z (eT c23) ?_;refine aA Z Z ?_;refine TL.on Z Z Z Z (eT c23) ?_;refine aA Z Z ?_;refine TL.on Z Z Z Z (eT c23) ?_;refine aA Z Z ?_;refine TL.on Z Z Z Z (eT c23) ?_;refine aA Z Z ?_;refine TL.on Z Z Z Z (eT c23) ?_;refine aA Z Z ?_;refine TL.on Z Z Z Z (eT c23) ?_;refine aA Z Z ?_;refine TL.on Z Z Z Z (eT c23) ?_;obtain⟨x24,hx24,ht22⟩:=bS ht22;obtain⟨x25,hx25,ht22⟩:=bS ht22;rw[xf hx25] at hx24;refine z6 (zp eNP hx24 Z Z Z Z Z) Z ?_;refine TL.on Z Z Z Z (eT c23) ?_;refine aA Z Z ?_;refine TL.on Z Z Z Z (eT c23) ?_;refine aA Z Z ?_;refine TL.on Z Z Z Z (eT c23) ?_;refine aA Z Z ?_;refine TL.on Z Z Z Z (eT c23) ?_;refine aA Z Z ?_;refine TL.on Z Z Z Z (eT c23) ?_;refine aA Z Z ?_;refine TL.on Z Z Z Z (eT c23) ?_;refine aA Z Z ?_;refine z6 (zt Z (eT c23) Z) Z ?_;refine TL.nil ?_;obtain rfl:=osi ht22;exact⟨_,Gst.only [0,1,2,3,8,38] Z,Z⟩
noncomputable def ya (a0:List wFr):Option Int:=
 bnd (idx a0 (w64 ((a0.length:Int)-1))) fun x2=>
 some (w64 ((a0.length:Int)-1))
theorem yy {a0:List wFr} {b0:Nat} {v1:Value} {res:Int} (h0:ya a0=some res):zo X 149 [dP b0] [.var b0 [.val v1] 228,.row v1 (List.map yF a0) 3 234] (fun x=>.val (.pointer (some ⟨blk v1,res.toNat*3,none⟩))) (fun x=>[.var b0 [.val v1] 228,.row v1 (List.map yF a0) 3 234]):=by
 unfold ya at h0;refine zb (X:=X) Z Tryz.func149 Z Z Tryz.ntmps149 Z Z ?_;refine aS ?_;refine aA Z Z ?_;refine aN Z ?_;refine T.seq ?_;obtain⟨x2,hx2,h0⟩:=bS h0;refine yr zV [dP b0,dP b0,dP b0,.val v1,dP b0,dP b0,dP b0,.val v1,dN (a0.length:Int),dN (w64 ((a0.length:Int)-1)),.val (.pointer (some ⟨blk v1,(w64 ((a0.length:Int)-1)).toNat*3,none⟩)),.val (.pointer (some ⟨blk v1,(w64 ((a0.length:Int)-1)).toNat*3,none⟩))] [2] (by decide +kernel) Z ?_ Z ?_;rotate_left
 ·show T X _ _ _;refine T.ret ?_;obtain rfl:=osi h0;exact rO [0,1] [2] Z undef (cT Z ResL.nil) Z Z Z Z
 iterate 3 refine aB rfl rfl rfl ?_
 refine zw.yes (Want.plain Z) Z (z7 0 Z Z Z Z) ?_;iterate 3 refine aB rfl rfl rfl ?_
 refine zw.yes (Want.plain Z) Z (z7 0 Z Z Z Z) ?_;refine zw.yes (Want.plain Z) Z (yH yF 1 Z Z Z Z) ?_;refine aB Z Z Z ?_;refine zw.yes (Want.plain Z) Z (zO yF 1 hx2 Z Z Z Z Z Z Z) ?_;refine aB Z Z Z ?_;exact zw.nil
end Go.Proofs.YtpmhiiemklhbhaaGreat.S
