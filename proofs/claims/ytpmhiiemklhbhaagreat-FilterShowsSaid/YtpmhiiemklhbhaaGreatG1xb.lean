import Derived.Test.YtpmhiiemklhbhaaGreatG1xa
set_option maxHeartbeats 4000000
set_option linter.unusedVariables false
set_option linter.unusedSimpArgs false
set_option maxRecDepth 20000
namespace Go.Proofs.YtpmhiiemklhbhaaGreat.S
open Go Go.Sm
attribute [local irreducible] T TL OpR CallT iter loop
noncomputable def ref05_One.l1 (a0:List UInt8) (s9:Int × (List ref05_Field)):Option (Lp (Int × (List ref05_Field)) (Int × (List ref05_Field))):=
 bnd (ref05_field a0 s9.1) fun x17=>
 bnd (app 48 s9.2 [x17]) fun x19=>
 bnd (if (w64 (x17.fRaw.fAt+x17.fRaw.fN))≥(a0.length:Int) then
 some true
else
 bnd (idx a0 (w64 (x17.fRaw.fAt+x17.fRaw.fN))) fun x23=>
 some (!((x23.toNat:Int)==44)):Option Bool) fun t21=>
 if t21=true then
 some (Lp.done (w64 (x17.fRaw.fAt+x17.fRaw.fN),x19))
else
 some (Lp.next (w64 ((w64 (x17.fRaw.fAt+x17.fRaw.fN))+1),x19))
noncomputable def ref05_One (a0:List UInt8) (a1:Int):Option (ref05_Row × Int):=
 bnd (if a1<0 then
 some true
else
 some (decide (a1≥(a0.length:Int))):Option Bool) fun t3=>
 if t3=true then
 some ((⟨[],0⟩:ref05_Row),a1)
else
 bnd (loop (ref05_One.l1 a0) (a1,[]):Option (Int × (List ref05_Field))) fun t6=>
 bnd (if t6.1<(a0.length:Int) then
 bnd (idx a0 t6.1) fun x27=>
 some ((x27.toNat:Int)==10)
else
 some false:Option Bool) fun t25=>
 if t25=true then
 some ((⟨t6.2,1⟩:ref05_Row),w64 (t6.1+1))
else
 bnd (if (w64 (t6.1+1))<(a0.length:Int) then
 bnd (idx a0 t6.1) fun x31=>
 if (x31.toNat:Int)=13 then
 bnd (idx a0 (w64 (t6.1+1))) fun x33=>
 some ((x33.toNat:Int)==10)
else
 some false
else
 some false:Option Bool) fun t29=>
 if t29=true then
 some ((⟨t6.2,2⟩:ref05_Row),w64 (t6.1+2))
else
 if t6.1<(a0.length:Int) then
 some ((⟨t6.2,3⟩:ref05_Row),w64 (t6.1+1))
else
 some ((⟨t6.2,0⟩:ref05_Row),t6.1)
theorem ref05_One_c {a0:List UInt8} {a1:Int} {res:ref05_Row × Int} (h0:ref05_One a0 a1=some res):CallF X 196 [.val (.string (bs a0)),dN a1] [] (fun x=>.tup [.agg [.sl 4 (List.map e_ref05_Field res.1.fFields),dN res.1.fEnd],dN res.2]) (fun x=>[]):=by
 unfold ref05_One at h0;refine CallF.mkG (X:=X) rfl Tryz.func196 rfl rfl Tryz.ntmps196 rfl rfl ?_;refine aS ?_;refine TL.op (OpR.alloc rfl rfl (fun _=>rfl)) rfl (fun p1=>?_);refine aA rfl rfl ?_;refine aN rfl ?_;refine aS ?_;refine TL.op1 (OpR.build rfl rfl rfl rfl rfl) rfl ?_;refine TL.op (OpR.alloc rfl rfl (fun _=>rfl)) rfl (fun p2=>?_);refine TL.op0 (OpR.store 1 rfl rfl rfl rfl rfl rfl rfl rfl) ?_;refine aN rfl ?_;refine T.seq ?_;refine T.seq ?_;obtain⟨t3,ht3,h0⟩:=bS h0;refine T.cutC (fun S'=>S'=⟨[(16,(dT t3)),(6,(dP (blk p2))),(5,(dN 0)),(4,(dP (blk p1))),(1,(dN a1)),(0,.val (.string (bs a0)))],[.var (blk p1) [.val (.slice none 0 0),dN 0] 210,.var (blk p2) [.val (.slice none 0 0),dN 0] 210],93⟩) (fun _ h=>h) ?_ ?_
 ·refine T.region ?_;iterate 3 refine aA rfl rfl ?_
  rcases ite_some ht3 with ⟨c4,ht3⟩|⟨c4,ht3⟩
  ·refine TL.off rfl rfl rfl rfl (eT c4) rfl rfl ?_;refine TL.off rfl rfl rfl rfl (eT c4) rfl rfl ?_;refine TL.off rfl rfl rfl rfl (eT c4) rfl rfl ?_;refine TL.off rfl rfl rfl rfl (eT c4) rfl rfl ?_;refine TL.op1 (OpR.pickT rfl (eT c4) rfl) rfl ?_;refine TL.nil ?_;obtain rfl:=osi ht3;exact⟨_,Gst.only [0,1,4,5,6,16] rfl,rfl⟩
  refine TL.on rfl rfl rfl rfl (eF c4) ?_;refine aA rfl rfl ?_;refine TL.on rfl rfl rfl rfl (eF c4) ?_;refine aA rfl rfl ?_;refine TL.on rfl rfl rfl rfl (eF c4) ?_;refine TL.op1 (OpR.cast (OpR.pure rfl) (intE (lenS _))) rfl ?_;refine TL.on rfl rfl rfl rfl (eF c4) ?_;refine aA rfl rfl ?_;refine TL.op1 (OpR.pickF rfl (eF c4) rfl) rfl ?_;refine TL.nil ?_;obtain rfl:=osi ht3;exact⟨_,Gst.only [0,1,4,5,6,16] rfl,rfl⟩
 rintro _ rfl;show T X _ _ _;rcases ite_some h0 with ⟨c5,h0⟩|⟨c5,h0⟩
 ·refine T.condT rfl (c5) ?_;refine aS ?_;refine TL.op1 (OpR.loadPtr 1 rfl rfl rfl rfl) rfl ?_;refine aA rfl rfl ?_;refine TL.op0 (OpR.store 0 rfl rfl rfl rfl rfl rfl rfl rfl) ?_;refine aA rfl rfl ?_;refine aN rfl ?_;refine T.ret ?_;obtain rfl:=osi h0;exact PostG.retP (ks:=[]) (Gst.trans (Gst.only [4,5] rfl) (Gst.trans (Gst.denil (ReS.cons Re.refl (ReS.cons Re.refl ReS.nil)) (ReO.var (ReL.cons (Re.base .nil) (ReL.cons Re.refl ReL.nil)) (ReO.same ReO.nil))) (Gst.pick [0] rfl rfl))) undef (cV 0 rfl rfl rfl rfl (cT rfl ResL.nil)) rfl rfl rfl rfl
 refine T.condF rfl (eq_false_of_ne_true c5) ?_;refine aK rfl ?_;refine T.seq ?_;obtain⟨t6,ht6,h0⟩:=bS h0;refine T.cutC (fun S'=>∃ y7:Value,S'=⟨[(6,(dP (blk p2))),(5,(dN 0)),(4,(dP (blk p1))),(1,(dN t6.1)),(0,.val (.string (bs a0)))],[.var (blk p1) [.val (.slice none 0 0),dN 0] 210,.var (blk p2) [.val y7,dN 0] 210,.row y7 (List.map e_ref05_Field t6.2) 4 276],93⟩) (fun _ h=>h) ?_ ?_
 ·refine T.block ?_;obtain⟨n10,n15⟩:=loop_some ht6;refine T.loop (fun n S'=>∃ S'',Gst S' S''∧∃ y8:Value,∃ s9:Int × (List ref05_Field),S''=⟨[(6,(dP (blk p2))),(5,(dN 0)),(4,(dP (blk p1))),(1,(dN s9.1)),(0,.val (.string (bs a0)))],[.var (blk p1) [.val (.slice none 0 0),dN 0] 210,.var (blk p2) [.val y8,dN 0] 210,.row y8 (List.map e_ref05_Field s9.2) 4 276],93⟩∧iter (ref05_One.l1 a0) n s9=some t6) n10 ?_ ?_
  ·exact⟨_,Gst.trans (Gst.only [0,1,4,5,6] rfl) (Gst.nilRow (ow:=[.var (blk p1) [.val (.slice none 0 0),dN 0] 210,.var (blk p2) [.val (.slice none 0 0),dN 0] 210]) 4 276 rfl),(.slice none 0 0),(a1,[]),rfl,n15⟩
  rintro n10 _ ⟨_,g,y8,s9,rfl,i14⟩;refine T.ghost g ?_;obtain⟨m11,q12,rfl,q13,i14⟩:=iter_succ i14;unfold ref05_One.l1 at q13;refine T.block ?_;refine aS ?_;iterate 2 refine aA rfl rfl ?_
  obtain⟨x17,hx17,q13⟩:=bS q13;refine TL.op1 (OpR.call0 fn229 (ref05_field_c hx17) rfl) rfl ?_;refine TL.op (OpR.alloc rfl rfl (fun _=>rfl)) rfl (fun p18=>?_);refine TL.op0 (OpR.store 3 rfl rfl rfl rfl rfl rfl rfl rfl) ?_;refine aN rfl ?_;refine aS ?_;refine aA rfl rfl ?_;refine TL.op1 (OpR.loadPtr 1 rfl rfl rfl rfl) rfl ?_;refine TL.op1 (OpR.loadPtr 3 rfl rfl rfl rfl) rfl ?_;refine TL.op1 (OpR.lit rfl rfl rfl rfl rfl rfl rfl) rfl ?_;obtain⟨x19,hx19,q13⟩:=bS q13;refine TL.op (OpR.appendM (m:=[x17]) e_ref05_Field 2 hx19 rfl rfl rfl rfl rfl rfl rfl rfl rfl (fun _=>rfl)) rfl (fun v20=>?_);refine aA rfl rfl ?_;refine TL.op0 (OpR.store 1 rfl rfl rfl rfl rfl rfl rfl rfl) ?_;refine aN rfl ?_;refine aS ?_;iterate 2 refine aA rfl rfl ?_
  refine TL.op1 (OpR.loadPtr 3 rfl rfl rfl rfl) rfl ?_;iterate 2 refine aA rfl rfl ?_
  refine TL.op1 (OpR.loadPtr 3 rfl rfl rfl rfl) rfl ?_;iterate 2 refine aA rfl rfl ?_
  refine aN rfl ?_;refine T.seq ?_;refine T.seq ?_;obtain⟨t21,ht21,q13⟩:=bS q13;refine T.cutC (fun S'=>S'=⟨[(44,(dT t21)),(6,(dP (blk p2))),(5,(dN 0)),(4,(dP (blk p1))),(1,(dN (w64 (x17.fRaw.fAt+x17.fRaw.fN)))),(0,.val (.string (bs a0)))],[.var (blk p1) [.val (.slice none 0 0),dN 0] 210,.var (blk p2) [.val v20,dN 0] 210,.row v20 (List.map e_ref05_Field x19) 4 276],93⟩) (fun _ h=>h) ?_ ?_;rotate_left
  ·rintro _ rfl;show T X _ _ _;rcases ite_some q13 with ⟨c24,q13⟩|⟨c24,q13⟩
   ·refine T.condT rfl (c24) ?_;refine T.exit ?_;obtain rfl:=osi q13;obtain rfl:_=_:=i14;exact⟨_,Gst.only [0,1,4,5,6] rfl,v20,rfl⟩
   refine T.condF rfl (eq_false_of_ne_true c24) ?_;refine aK rfl ?_;refine T.region ?_;iterate 3 refine aA rfl rfl ?_
   refine TL.nil ?_;obtain rfl:=osi q13;exact⟨m11,Nat.lt_succ_self _,_,Gst.only [0,1,4,5,6] rfl,v20,(w64 ((w64 (x17.fRaw.fAt+x17.fRaw.fN))+1),x19),rfl,i14⟩
  refine T.region ?_;iterate 2 refine aA rfl rfl ?_
  refine TL.op1 (OpR.cast (OpR.pure rfl) (intE (lenS _))) rfl ?_;iterate 2 refine aA rfl rfl ?_
  rcases ite_some ht21 with ⟨c22,ht21⟩|⟨c22,ht21⟩
  ·refine TL.off rfl rfl rfl rfl (eT c22) rfl rfl ?_;refine TL.off rfl rfl rfl rfl (eT c22) rfl rfl ?_;refine TL.off rfl rfl rfl rfl (eT c22) rfl rfl ?_;refine TL.off rfl rfl rfl rfl (eT c22) rfl rfl ?_;refine TL.op1 (OpR.pickT rfl (eT c22) rfl) rfl ?_;refine TL.nil ?_;obtain rfl:=osi ht21;exact⟨_,gP [0,1,4,5,6,44] [0,1,2] rfl rfl rfl,rfl⟩
  refine TL.on rfl rfl rfl rfl (eF c22) ?_;refine aA rfl rfl ?_;refine TL.on rfl rfl rfl rfl (eF c22) ?_;refine aA rfl rfl ?_;refine TL.on rfl rfl rfl rfl (eF c22) ?_;obtain⟨x23,hx23,ht21⟩:=bS ht21;refine TL.op1 (OpR.indexS hx23 rfl rfl rfl rfl) rfl ?_;refine TL.on rfl rfl rfl rfl (eF c22) ?_;refine aA rfl rfl ?_;refine TL.op1 (OpR.pickF rfl (eF c22) rfl) rfl ?_;refine TL.nil ?_;obtain rfl:=osi ht21;exact⟨_,gP [0,1,4,5,6,44] [0,1,2] rfl rfl rfl,rfl⟩
 rintro _ ⟨y7,rfl⟩;show T X _ _ _;refine T.seq ?_;refine T.seq ?_;obtain⟨t25,ht25,h0⟩:=bS h0;refine T.cutC (fun S'=>S'=⟨[(56,(dT t25)),(6,(dP (blk p2))),(5,(dN 0)),(4,(dP (blk p1))),(1,(dN t6.1)),(0,.val (.string (bs a0)))],[.var (blk p1) [.val (.slice none 0 0),dN 0] 210,.var (blk p2) [.val y7,dN 0] 210,.row y7 (List.map e_ref05_Field t6.2) 4 276],93⟩) (fun _ h=>h) ?_ ?_
 ·refine T.region ?_;iterate 2 refine aA rfl rfl ?_
  refine TL.op1 (OpR.cast (OpR.pure rfl) (intE (lenS _))) rfl ?_;iterate 2 refine aA rfl rfl ?_
  rcases ite_some ht25 with ⟨c26,ht25⟩|⟨c26,ht25⟩;rotate_left
  ·refine TL.off rfl rfl rfl rfl (eF c26) rfl rfl ?_;refine TL.off rfl rfl rfl rfl (eF c26) rfl rfl ?_;refine TL.off rfl rfl rfl rfl (eF c26) rfl rfl ?_;refine TL.off rfl rfl rfl rfl (eF c26) rfl rfl ?_;refine TL.op1 (OpR.pickF rfl (eF c26) rfl) rfl ?_;refine TL.nil ?_;obtain rfl:=osi ht25;exact⟨_,Gst.only [0,1,4,5,6,56] rfl,rfl⟩
  refine TL.on rfl rfl rfl rfl (eT c26) ?_;refine aA rfl rfl ?_;refine TL.on rfl rfl rfl rfl (eT c26) ?_;refine aA rfl rfl ?_;refine TL.on rfl rfl rfl rfl (eT c26) ?_;obtain⟨x27,hx27,ht25⟩:=bS ht25;refine TL.op1 (OpR.indexS hx27 rfl rfl rfl rfl) rfl ?_;refine TL.on rfl rfl rfl rfl (eT c26) ?_;refine aA rfl rfl ?_;refine TL.op1 (OpR.pickT rfl (eT c26) rfl) rfl ?_;refine TL.nil ?_;obtain rfl:=osi ht25;exact⟨_,Gst.only [0,1,4,5,6,56] rfl,rfl⟩
 rintro _ rfl;show T X _ _ _;rcases ite_some h0 with ⟨c28,h0⟩|⟨c28,h0⟩
 ·refine T.condT rfl (c28) ?_;refine aS ?_;refine aA rfl rfl ?_;refine TL.op0 (OpR.store 1 rfl rfl rfl rfl rfl rfl rfl rfl) ?_;refine aN rfl ?_;refine aS ?_;refine TL.op1 (OpR.loadPtr 1 rfl rfl rfl rfl) rfl ?_;iterate 2 refine aA rfl rfl ?_
  refine TL.op0 (OpR.store 0 rfl rfl rfl rfl rfl rfl rfl rfl) ?_;refine aA rfl rfl ?_;refine aN rfl ?_;refine T.ret ?_;obtain rfl:=osi h0;exact PostG.retP (ks:=[]) (Gst.trans (Gst.only [4,5] rfl) (Gst.trans (Gst.freezeRow 2 rfl rfl (ReS.cons Re.refl (ReS.cons Re.refl ReS.nil)) (ReO.var (ReL.cons (Re.base .all) (ReL.cons Re.refl ReL.nil)) (ReO.var (ReL.cons (Re.base .all) (ReL.cons Re.refl ReL.nil)) (ReO.same ReO.nil)))) (Gst.pick [0] rfl rfl))) undef (cV 0 rfl rfl rfl rfl (cT rfl ResL.nil)) rfl rfl rfl rfl
 refine T.condF rfl (eq_false_of_ne_true c28) ?_;refine aK rfl ?_;refine T.seq ?_;refine T.seq ?_;obtain⟨t29,ht29,h0⟩:=bS h0;refine T.cutC (fun S'=>S'=⟨[(78,(dT t29)),(6,(dP (blk p2))),(5,(dN 0)),(4,(dP (blk p1))),(1,(dN t6.1)),(0,.val (.string (bs a0)))],[.var (blk p1) [.val (.slice none 0 0),dN 0] 210,.var (blk p2) [.val y7,dN 0] 210,.row y7 (List.map e_ref05_Field t6.2) 4 276],93⟩) (fun _ h=>h) ?_ ?_
 ·refine T.region ?_;iterate 3 refine aA rfl rfl ?_
  refine TL.op1 (OpR.cast (OpR.pure rfl) (intE (lenS _))) rfl ?_;iterate 2 refine aA rfl rfl ?_
  rcases ite_some ht29 with ⟨c30,ht29⟩|⟨c30,ht29⟩;rotate_left
  ·refine TL.off rfl rfl rfl rfl (eF c30) rfl rfl ?_;refine TL.off rfl rfl rfl rfl (eF c30) rfl rfl ?_;refine TL.off rfl rfl rfl rfl (eF c30) rfl rfl ?_;refine TL.off rfl rfl rfl rfl (eF c30) rfl rfl ?_;refine TL.op1 (OpR.pickF rfl (eF c30) rfl) rfl ?_;refine aA rfl rfl ?_;refine TL.off rfl rfl rfl rfl rfl rfl rfl ?_;refine TL.off rfl rfl rfl rfl rfl rfl rfl ?_;refine TL.off rfl rfl rfl rfl rfl rfl rfl ?_;refine TL.off rfl rfl rfl rfl rfl rfl rfl ?_;refine TL.off rfl rfl rfl rfl rfl rfl rfl ?_;refine TL.op1 (OpR.pickF rfl rfl rfl) rfl ?_;refine TL.nil ?_;obtain rfl:=osi ht29;exact⟨_,Gst.only [0,1,4,5,6,78] rfl,rfl⟩
  refine TL.on rfl rfl rfl rfl (eT c30) ?_;refine aA rfl rfl ?_;refine TL.on rfl rfl rfl rfl (eT c30) ?_;refine aA rfl rfl ?_;refine TL.on rfl rfl rfl rfl (eT c30) ?_;obtain⟨x31,hx31,ht29⟩:=bS ht29;refine TL.op1 (OpR.indexS hx31 rfl rfl rfl rfl) rfl ?_;refine TL.on rfl rfl rfl rfl (eT c30) ?_;refine aA rfl rfl ?_;refine TL.op1 (OpR.pickT rfl (eT c30) rfl) rfl ?_;refine aA rfl rfl ?_;rcases ite_some ht29 with ⟨c32,ht29⟩|⟨c32,ht29⟩;rotate_left
  ·refine TL.off rfl rfl rfl rfl (beq_eq_false_iff_ne.2 c32) rfl rfl ?_;refine TL.off rfl rfl rfl rfl (beq_eq_false_iff_ne.2 c32) rfl rfl ?_;refine TL.off rfl rfl rfl rfl (beq_eq_false_iff_ne.2 c32) rfl rfl ?_;refine TL.off rfl rfl rfl rfl (beq_eq_false_iff_ne.2 c32) rfl rfl ?_;refine TL.off rfl rfl rfl rfl (beq_eq_false_iff_ne.2 c32) rfl rfl ?_;refine TL.op1 (OpR.pickF rfl (beq_eq_false_iff_ne.2 c32) rfl) rfl ?_;refine TL.nil ?_;obtain rfl:=osi ht29;exact⟨_,Gst.only [0,1,4,5,6,78] rfl,rfl⟩
  refine TL.on rfl rfl rfl rfl (beq_iff_eq.2 c32) ?_;refine aA rfl rfl ?_;refine TL.on rfl rfl rfl rfl (beq_iff_eq.2 c32) ?_;refine aA rfl rfl ?_;refine TL.on rfl rfl rfl rfl (beq_iff_eq.2 c32) ?_;refine aA rfl rfl ?_;refine TL.on rfl rfl rfl rfl (beq_iff_eq.2 c32) ?_;obtain⟨x33,hx33,ht29⟩:=bS ht29;refine TL.op1 (OpR.indexS hx33 rfl rfl rfl rfl) rfl ?_;refine TL.on rfl rfl rfl rfl (beq_iff_eq.2 c32) ?_;refine aA rfl rfl ?_;refine TL.op1 (OpR.pickT rfl (beq_iff_eq.2 c32) rfl) rfl ?_;refine TL.nil ?_;obtain rfl:=osi ht29;exact⟨_,Gst.only [0,1,4,5,6,78] rfl,rfl⟩
 rintro _ rfl;show T X _ _ _;rcases ite_some h0 with ⟨c34,h0⟩|⟨c34,h0⟩
 ·refine T.condT rfl (c34) ?_;refine aS ?_;refine aA rfl rfl ?_;refine TL.op0 (OpR.store 1 rfl rfl rfl rfl rfl rfl rfl rfl) ?_;refine aN rfl ?_;refine aS ?_;refine TL.op1 (OpR.loadPtr 1 rfl rfl rfl rfl) rfl ?_;iterate 2 refine aA rfl rfl ?_
  refine TL.op0 (OpR.store 0 rfl rfl rfl rfl rfl rfl rfl rfl) ?_;refine aA rfl rfl ?_;refine aN rfl ?_;refine T.ret ?_;obtain rfl:=osi h0;exact PostG.retP (ks:=[]) (Gst.trans (Gst.only [4,5] rfl) (Gst.trans (Gst.freezeRow 2 rfl rfl (ReS.cons Re.refl (ReS.cons Re.refl ReS.nil)) (ReO.var (ReL.cons (Re.base .all) (ReL.cons Re.refl ReL.nil)) (ReO.var (ReL.cons (Re.base .all) (ReL.cons Re.refl ReL.nil)) (ReO.same ReO.nil)))) (Gst.pick [0] rfl rfl))) undef (cV 0 rfl rfl rfl rfl (cT rfl ResL.nil)) rfl rfl rfl rfl
 refine T.condF rfl (eq_false_of_ne_true c34) ?_;refine aK rfl ?_;refine T.seq ?_;refine aS ?_;iterate 2 refine aA rfl rfl ?_
 refine TL.op1 (OpR.cast (OpR.pure rfl) (intE (lenS _))) rfl ?_;refine aA rfl rfl ?_;refine aN rfl ?_;rcases ite_some h0 with ⟨c35,h0⟩|⟨c35,h0⟩;rotate_left
 ·refine T.condF rfl (eF c35) ?_;refine aK rfl ?_;refine aS ?_;refine TL.op1 (OpR.loadPtr 1 rfl rfl rfl rfl) rfl ?_;refine aA rfl rfl ?_;refine TL.op0 (OpR.store 0 rfl rfl rfl rfl rfl rfl rfl rfl) ?_;refine aA rfl rfl ?_;refine aN rfl ?_;refine T.ret ?_;obtain rfl:=osi h0;exact PostG.retP (ks:=[]) (Gst.trans (Gst.only [4,5] rfl) (Gst.trans (Gst.freezeRow 2 rfl rfl (ReS.cons Re.refl (ReS.cons Re.refl ReS.nil)) (ReO.var (ReL.cons (Re.base .all) (ReL.cons Re.refl ReL.nil)) (ReO.var (ReL.cons (Re.base .all) (ReL.cons Re.refl ReL.nil)) (ReO.same ReO.nil)))) (Gst.pick [0] rfl rfl))) undef (cV 0 rfl rfl rfl rfl (cT rfl ResL.nil)) rfl rfl rfl rfl
 refine T.condT rfl (eT c35) ?_;refine aS ?_;refine aA rfl rfl ?_;refine TL.op0 (OpR.store 1 rfl rfl rfl rfl rfl rfl rfl rfl) ?_;refine aN rfl ?_;refine aS ?_;refine TL.op1 (OpR.loadPtr 1 rfl rfl rfl rfl) rfl ?_;iterate 2 refine aA rfl rfl ?_
 refine TL.op0 (OpR.store 0 rfl rfl rfl rfl rfl rfl rfl rfl) ?_;refine aA rfl rfl ?_;refine aN rfl ?_;refine T.ret ?_;obtain rfl:=osi h0;exact PostG.retP (ks:=[]) (Gst.trans (Gst.only [4,5] rfl) (Gst.trans (Gst.freezeRow 2 rfl rfl (ReS.cons Re.refl (ReS.cons Re.refl ReS.nil)) (ReO.var (ReL.cons (Re.base .all) (ReL.cons Re.refl ReL.nil)) (ReO.var (ReL.cons (Re.base .all) (ReL.cons Re.refl ReL.nil)) (ReO.same ReO.nil)))) (Gst.pick [0] rfl rfl))) undef (cV 0 rfl rfl rfl rfl (cT rfl ResL.nil)) rfl rfl rfl rfl
noncomputable def ref05_All.l1 (a0:List UInt8) (s4:Int × (List ref05_Row)):Option (Lp (Int × (List ref05_Row)) (List ref05_Row)):=
 if s4.1<(a0.length:Int) then
 bnd (ref05_One a0 s4.1) fun x13=>
 bnd (app 32 s4.2 [x13.1]) fun x15=>
 some (Lp.next (x13.2,x15))
else
 some (Lp.done s4.2)
noncomputable def ref05_All (a0:List UInt8):Option (List ref05_Row):=
 bnd (loop (ref05_All.l1 a0) (0,[]):Option (List ref05_Row)) fun t1=>
 some t1
theorem ref05_All_c {a0:List UInt8} {res:(List ref05_Row)} (h0:ref05_All a0=some res):CallF X 133 [.val (.string (bs a0))] [] (fun x=>.sl 2 (List.map e_ref05_Row res)) (fun x=>[]):=by
 unfold ref05_All at h0;refine CallF.mkG (X:=X) rfl Tryz.func133 rfl rfl Tryz.ntmps133 rfl rfl ?_;refine aS ?_;refine aA rfl rfl ?_;refine aN rfl ?_;refine aS ?_;refine aA rfl rfl ?_;refine aN rfl ?_;refine T.seq ?_;refine aS ?_;refine aA rfl rfl ?_;refine aN rfl ?_;obtain⟨t1,ht1,h0⟩:=bS h0;refine T.cutC (fun S'=>∃ y2:Value,S'=⟨[(3,.val y2),(2,.val (.slice none 0 0))],[.row y2 (List.map e_ref05_Row t1) 2 210],23⟩) (fun _ h=>h) ?_ ?_;rotate_left
 ·rintro _ ⟨y2,rfl⟩;show T X _ _ _;refine aS ?_;iterate 2 refine aA rfl rfl ?_
  refine aN rfl ?_;refine T.ret ?_;obtain rfl:=osi h0;exact PostG.retP (ks:=[]) (Gst.trans (Gst.only [2] rfl) (Gst.trans (Gst.freezeRow 0 rfl rfl (ReS.cons (Re.base .all) ReS.nil) (ReO.same ReO.nil)) (Gst.pick [] rfl rfl))) undef (cT rfl ResL.nil) rfl rfl rfl rfl
 refine T.block ?_;obtain⟨n5,n10⟩:=loop_some ht1;refine T.loop (fun n S'=>∃ S'',Gst S' S''∧∃ y3:Value,∃ s4:Int × (List ref05_Row),S''=⟨[(4,(dN s4.1)),(3,.val y3),(2,.val (.slice none 0 0)),(0,.val (.string (bs a0)))],[.row y3 (List.map e_ref05_Row s4.2) 2 210],23⟩∧iter (ref05_All.l1 a0) n s4=some t1) n5 ?_ ?_
 ·exact⟨_,Gst.trans (Gst.only [0,2,3,4] rfl) (Gst.nilRow (ow:=[]) 2 210 rfl),(.slice none 0 0),(0,[]),rfl,n10⟩
 rintro n5 _ ⟨_,g,y3,s4,rfl,i9⟩;refine T.ghost g ?_;obtain⟨m6,q7,rfl,q8,i9⟩:=iter_succ i9;unfold ref05_All.l1 at q8;refine T.seq ?_;refine aS ?_;iterate 2 refine aA rfl rfl ?_
 refine TL.op1 (OpR.cast (OpR.pure rfl) (intE (lenS _))) rfl ?_;refine aA rfl rfl ?_;refine aN rfl ?_;rcases ite_some q8 with ⟨c12,q8⟩|⟨c12,q8⟩;rotate_left
 ·refine T.condF rfl (eF c12) ?_;refine T.exit ?_;obtain rfl:=osi q8;obtain rfl:_=_:=i9;exact⟨_,Gst.only [2,3] rfl,y3,rfl⟩
 refine T.condT rfl (eT c12) ?_;refine aK rfl ?_;refine T.block ?_;refine aS ?_;iterate 2 refine aA rfl rfl ?_
 obtain⟨x13,hx13,q8⟩:=bS q8;refine TL.op1 (OpR.call0 fn196 (ref05_One_c hx13) rfl) rfl ?_;iterate 3 refine aA rfl rfl ?_
 refine TL.op (OpR.alloc rfl rfl (fun _=>rfl)) rfl (fun p14=>?_);refine TL.op0 (OpR.store 1 rfl rfl rfl rfl rfl rfl rfl rfl) ?_;refine aA rfl rfl ?_;refine aN rfl ?_;refine aS ?_;refine aA rfl rfl ?_;refine TL.op1 (OpR.loadPtr 1 rfl rfl rfl rfl) rfl ?_;refine TL.op1 (OpR.lit rfl rfl rfl rfl rfl rfl rfl) rfl ?_;obtain⟨x15,hx15,q8⟩:=bS q8;refine TL.op (OpR.appendM (m:=[x13.1]) e_ref05_Row 0 hx15 rfl rfl rfl rfl rfl rfl rfl rfl rfl (fun _=>rfl)) rfl (fun v16=>?_);refine aA rfl rfl ?_;refine aN rfl ?_;refine T.region ?_;iterate 2 refine aA rfl rfl ?_
 refine TL.nil ?_;obtain rfl:=osi q8;exact⟨m6,Nat.lt_succ_self _,_,gP [0,2,3,4] [0] rfl rfl rfl,v16,(x13.2,x15),rfl,i9⟩
noncomputable def ref05_Text.l1 (a0:List UInt8) (a1:List Int) (s2:(List UInt8) × Int):Option (Lp ((List UInt8) × Int) (List UInt8)):=
 if s2.2<(a1.length:Int) then
 bnd (idx a1 s2.2) fun x11=>
 bnd (cut a0 x11 (w64 (x11+1))) fun x12=>
 bnd (catS s2.1 x12) fun x13=>
 some (Lp.next (x13,w64 (s2.2+1)))
else
 some (Lp.done s2.1)
noncomputable def ref05_Text (a0:List UInt8) (a1:List Int):Option (List UInt8):=
 bnd (loop (ref05_Text.l1 a0 a1) ([],0):Option (List UInt8)) fun t1=>
 some t1
theorem ref05_Text_c {a0:List UInt8} {a1:List Int} {res:(List UInt8)} (h0:ref05_Text a0 a1=some res):CallF X 197 [.val (.string (bs a0)),.sl 1 (List.map (eI .i64) a1)] [] (fun x=>.val (.string (bs res))) (fun x=>[]):=by
 unfold ref05_Text at h0;refine CallF.mkG (X:=X) rfl Tryz.func197 rfl rfl Tryz.ntmps197 rfl rfl ?_;refine aS ?_;refine aA rfl rfl ?_;refine aN rfl ?_;refine aS ?_;refine aA rfl rfl ?_;refine aN rfl ?_;refine T.seq ?_;refine aS ?_;refine aA rfl rfl ?_;refine TL.op1 (OpR.cast (OpR.pure rfl) (intE (lenM _ _))) rfl ?_;refine aA rfl rfl ?_;refine aN rfl ?_;obtain⟨t1,ht1,h0⟩:=bS h0;refine T.cutC (fun S'=>S'=⟨[(5,.val (.string (bs t1))),(4,.val (.string (bs [])))],[],23⟩) (fun _ h=>h) ?_ ?_;rotate_left
 ·rintro _ rfl;show T X _ _ _;refine aS ?_;iterate 2 refine aA rfl rfl ?_
  refine aN rfl ?_;refine T.ret ?_;obtain rfl:=osi h0;exact rO [] [4] rfl undef (cT rfl ResL.nil) rfl rfl rfl rfl
 refine T.block ?_;obtain⟨n3,n8⟩:=loop_some ht1;refine T.loop (fun n S'=>∃ S'',Gst S' S''∧∃ s2:(List UInt8) × Int,S''=⟨[(10,(dN s2.2)),(9,(dN (a1.length:Int))),(8,.sl 1 (List.map (eI .i64) a1)),(5,.val (.string (bs s2.1))),(4,.val (.string (bs []))),(0,.val (.string (bs a0)))],[],23⟩∧iter (ref05_Text.l1 a0 a1) n s2=some t1) n3 ?_ ?_
 ·exact⟨_,Gst.only [0,4,5,8,9,10] rfl,([],0),rfl,n8⟩
 rintro n3 _ ⟨_,g,s2,rfl,i7⟩;refine T.ghost g ?_;obtain⟨m4,q5,rfl,q6,i7⟩:=iter_succ i7;unfold ref05_Text.l1 at q6;refine aS ?_;refine aA rfl rfl ?_;refine aN rfl ?_;refine T.seq ?_;rcases ite_some q6 with ⟨c10,q6⟩|⟨c10,q6⟩;rotate_left
 ·refine T.condF rfl (eF c10) ?_;refine T.exit ?_;obtain rfl:=osi q6;obtain rfl:_=_:=i7;exact⟨_,Gst.only [4,5] rfl,rfl⟩
 refine T.condT rfl (eT c10) ?_;refine aK rfl ?_;refine T.seq ?_;refine T.block ?_;refine aS ?_;obtain⟨x11,hx11,q6⟩:=bS q6;refine TL.op1 (OpR.indexM (eI .i64) hx11 rfl rfl rfl rfl rfl) rfl ?_;iterate 2 refine aA rfl rfl ?_
 refine aN rfl ?_;refine T.region ?_;iterate 5 refine aA rfl rfl ?_
 obtain⟨x12,hx12,q6⟩:=bS q6;refine TL.op1 (OpR.sliceS hx12 rfl rfl rfl (BdM.some rfl) (BdM.some rfl)) rfl ?_;obtain⟨x13,hx13,q6⟩:=bS q6;refine TL.op1 (OpR.concatM hx13 rfl rfl) rfl ?_;refine aA rfl rfl ?_;refine aN rfl ?_;refine T.region ?_;iterate 2 refine aA rfl rfl ?_
 refine TL.nil ?_;obtain rfl:=osi q6;exact⟨m4,Nat.lt_succ_self _,_,Gst.only [0,4,5,8,9,10] rfl,(x13,w64 (s2.2+1)),rfl,i7⟩
noncomputable def ref08_Load.l1 (a0:List UInt8) (a1:ref05_Row) (s8:Int × (List ref07_Cell)):Option (Lp (Int × (List ref07_Cell)) (Ex (List ref07_Cell) (ref08_Row × Int))):=
 if s8.1<(a1.fFields.length:Int) then
 bnd (idx a1.fFields s8.1) fun x17=>
 if (x17.fBytes.length:Int)>400 then
 some (Lp.done (Ex.ret ((⟨[],0,false⟩:ref08_Row),7)))
else
 bnd (ref05_Text a0 x17.fBytes) fun x21=>
 bnd (cut a0 x17.fRaw.fAt (w64 (x17.fRaw.fAt+x17.fRaw.fN))) fun x22=>
 bnd (app 40 s8.2 [(⟨x21,x22,true⟩:ref07_Cell)]) fun x23=>
 some (Lp.next (w64 (s8.1+1),x23))
else
 some (Lp.done (Ex.brk s8.2))
noncomputable def ref08_Load (a0:List UInt8) (a1:ref05_Row):Option (ref08_Row × Int):=
 if (a1.fFields.length:Int)>40 then
 some ((⟨[],0,false⟩:ref08_Row),6)
else
 bnd (loop (ref08_Load.l1 a0 a1) (0,[]):Option (Ex (List ref07_Cell) (ref08_Row × Int))) fun t4=>match t4 with
| .brk u5=>
 some ((⟨u5,a1.fEnd,false⟩:ref08_Row),0)
| .ret u5=>some u5
theorem ref08_Load_c {a0:List UInt8} {a1:ref05_Row} {res:ref08_Row × Int} (h0:ref08_Load a0 a1=some res):CallF X 134 [.val (.string (bs a0)),.agg [.sl 4 (List.map e_ref05_Field a1.fFields),dN a1.fEnd]] [] (fun x=>.tup [.agg [.sl 3 (List.map e_ref07_Cell res.1.fCells),dN res.1.fEnd,dT res.1.fHidden],dN res.2]) (fun x=>[]):=by
 unfold ref08_Load at h0;refine CallF.mkG (X:=X) rfl Tryz.func134 rfl rfl Tryz.ntmps134 rfl rfl ?_;refine aS ?_;refine TL.op1 (OpR.boxImm rfl rfl) rfl ?_;refine TL.op (OpR.alloc rfl rfl (fun _=>rfl)) rfl (fun p1=>?_);refine aA rfl rfl ?_;refine aN rfl ?_;refine aS ?_;iterate 2 refine aA rfl rfl ?_
 refine TL.op1 (OpR.build rfl rfl rfl rfl rfl) rfl ?_;refine TL.op (OpR.alloc rfl rfl (fun _=>rfl)) rfl (fun p2=>?_);refine TL.op0 (OpR.store 1 rfl rfl rfl rfl rfl rfl rfl rfl) ?_;refine aN rfl ?_;refine T.seq ?_;refine aS ?_;iterate 2 refine aA rfl rfl ?_
 refine TL.op1 (OpR.cast (OpR.pure rfl) (intE (lenM _ _))) rfl ?_;refine aA rfl rfl ?_;refine aN rfl ?_;rcases ite_some h0 with ⟨c3,h0⟩|⟨c3,h0⟩
 ·refine T.condT rfl (eT c3) ?_;refine aS ?_;refine TL.op1 (OpR.build rfl rfl rfl rfl rfl) rfl ?_;refine TL.op0 (OpR.store 0 rfl rfl rfl rfl rfl rfl rfl rfl) ?_;refine aA rfl rfl ?_;refine aN rfl ?_;refine T.ret ?_;obtain rfl:=osi h0;exact PostG.retP (ks:=[]) (Gst.trans (Gst.only [4,5] rfl) (Gst.trans (Gst.denil (ReS.cons Re.refl (ReS.cons Re.refl ReS.nil)) (ReO.var (ReL.cons (Re.base .nil) (ReL.cons Re.refl (ReL.cons Re.refl ReL.nil))) (ReO.same ReO.nil))) (Gst.pick [0] rfl rfl))) undef (cV 0 rfl rfl rfl rfl (cT rfl ResL.nil)) rfl rfl rfl rfl
 refine T.condF rfl (eF c3) ?_;refine aK rfl ?_;refine T.seq ?_;refine aS ?_;iterate 2 refine aA rfl rfl ?_
 refine TL.op1 (OpR.cast (OpR.pure rfl) (intE (lenM _ _))) rfl ?_;refine aA rfl rfl ?_;refine aN rfl ?_;obtain⟨t4,ht4,h0⟩:=bS h0;refine T.cutC (fun S'=>∃ u5,t4=Ex.brk u5∧∃ y6:Value,S'=⟨[(6,(dP (blk p2))),(5,(dN 0)),(4,(dP (blk p1)))],[.var (blk p1) [.val (.slice none 0 0),dN 0,dT false] 60,.var (blk p2) [.val y6,dN a1.fEnd,dT false] 60,.row y6 (List.map e_ref07_Cell u5) 3 151],53⟩) (fun _ h=>h) ?_ ?_;rotate_left
 ·rintro _ ⟨u5,rfl,y6,rfl⟩;show T X _ _ _;refine aS ?_;refine TL.op1 (OpR.loadPtr 1 rfl rfl rfl rfl) rfl ?_;refine TL.op0 (OpR.store 0 rfl rfl rfl rfl rfl rfl rfl rfl) ?_;refine aA rfl rfl ?_;refine aN rfl ?_;refine T.ret ?_;obtain rfl:=osi h0;exact PostG.retP (ks:=[]) (Gst.trans (Gst.only [4,5] rfl) (Gst.trans (Gst.freezeRow 2 rfl rfl (ReS.cons Re.refl (ReS.cons Re.refl ReS.nil)) (ReO.var (ReL.cons (Re.base .all) (ReL.cons Re.refl (ReL.cons Re.refl ReL.nil))) (ReO.var (ReL.cons (Re.base .all) (ReL.cons Re.refl (ReL.cons Re.refl ReL.nil))) (ReO.same ReO.nil)))) (Gst.pick [0] rfl rfl))) undef (cV 0 rfl rfl rfl rfl (cT rfl ResL.nil)) rfl rfl rfl rfl
 refine T.block ?_;obtain⟨n9,n14⟩:=loop_some ht4;refine T.loop (fun n S'=>∃ S'',Gst S' S''∧∃ y7:Value,∃ s8:Int × (List ref07_Cell),S''=⟨[(20,(dN s8.1)),(19,(dN (a1.fFields.length:Int))),(18,.sl 4 (List.map e_ref05_Field a1.fFields)),(6,(dP (blk p2))),(5,(dN 0)),(4,(dP (blk p1))),(0,.val (.string (bs a0)))],[.var (blk p1) [.val (.slice none 0 0),dN 0,dT false] 60,.var (blk p2) [.val y7,dN a1.fEnd,dT false] 60,.row y7 (List.map e_ref07_Cell s8.2) 3 151],53⟩∧iter (ref08_Load.l1 a0 a1) n s8=some t4) n9 ?_ ?_
 ·exact⟨_,Gst.trans (Gst.only [0,4,5,6,18,19,20] rfl) (Gst.nilRow (ow:=[.var (blk p1) [.val (.slice none 0 0),dN 0,dT false] 60,.var (blk p2) [.val (.slice none 0 0),dN a1.fEnd,dT false] 60]) 3 151 rfl),(.slice none 0 0),(0,[]),rfl,n14⟩
 rintro n9 _ ⟨_,g,y7,s8,rfl,i13⟩;refine T.ghost g ?_;obtain⟨m10,q11,rfl,q12,i13⟩:=iter_succ i13;unfold ref08_Load.l1 at q12;refine aS ?_;refine aA rfl rfl ?_;refine aN rfl ?_;refine T.seq ?_;rcases ite_some q12 with ⟨c16,q12⟩|⟨c16,q12⟩;rotate_left
 ·refine T.condF rfl (eF c16) ?_;refine T.exit ?_;obtain rfl:=osi q12;obtain rfl:_=_:=i13;exact⟨_,Gst.only [4,5,6] rfl,_,rfl,y7,rfl⟩
 refine T.condT rfl (eT c16) ?_;refine aK rfl ?_;refine T.seq ?_;refine T.block ?_;refine aS ?_;obtain⟨x17,hx17,q12⟩:=bS q12;refine TL.op1 (OpR.indexM e_ref05_Field hx17 rfl rfl rfl rfl rfl) rfl ?_;refine aA rfl rfl ?_;refine TL.op (OpR.alloc rfl rfl (fun _=>rfl)) rfl (fun p18=>?_);refine TL.op0 (OpR.store 3 rfl rfl rfl rfl rfl rfl rfl rfl) ?_;refine aN rfl ?_;refine T.seq ?_;refine aS ?_;refine aA rfl rfl ?_;refine TL.op1 (OpR.loadPtr 3 rfl rfl rfl rfl) rfl ?_;refine TL.op1 (OpR.cast (OpR.pure rfl) (intE (lenM _ _))) rfl ?_;refine aA rfl rfl ?_;refine aN rfl ?_;rcases ite_some q12 with ⟨c19,q12⟩|⟨c19,q12⟩
 ·refine T.condT rfl (eT c19) ?_;refine aS ?_;refine TL.op1 (OpR.build rfl rfl rfl rfl rfl) rfl ?_;refine TL.op0 (OpR.store 0 rfl rfl rfl rfl rfl rfl rfl rfl) ?_;refine aA rfl rfl ?_;refine aN rfl ?_;refine T.ret ?_;obtain rfl:=osi q12;obtain rfl:_=_:=i13;obtain rfl:=osi h0;exact PostG.retP (ks:=[]) (Gst.trans (Gst.only [4,5] rfl) (Gst.trans (Gst.denil (ReS.cons Re.refl (ReS.cons Re.refl ReS.nil)) (ReO.var (ReL.cons (Re.base .nil) (ReL.cons Re.refl (ReL.cons Re.refl ReL.nil))) (ReO.same (ReO.same (ReO.same ReO.nil))))) (Gst.pick [0] rfl rfl))) undef (cV 0 rfl rfl rfl rfl (cT rfl ResL.nil)) rfl rfl rfl rfl
 refine T.condF rfl (eF c19) ?_;refine aK rfl ?_;obtain⟨x21,hx21,q12⟩:=bS q12;obtain⟨x22,hx22,q12⟩:=bS q12;obtain⟨x23,hx23,q12⟩:=bS q12;refine T.drawS drawsX (fun env20=>[dP (blk p2),.val y7,.val (.string (bs a0)),.val (.pointer (some ⟨(blk p18),3,none⟩)),.sl 1 (List.map (eI .i64) x17.fBytes),.val (.string (bs x21)),.val (.string (bs a0)),dP (blk p18),dP (blk p18),dN x17.fRaw.fAt,dP (blk p18),dP (blk p18),dN x17.fRaw.fAt,dP (blk p18),.val (.pointer (some ⟨(blk p18),1,none⟩)),dN x17.fRaw.fN,dN (w64 (x17.fRaw.fAt+x17.fRaw.fN)),.val (.string (bs x22)),.agg [.val (.string (bs x21)),.val (.string (bs x22)),dT true],.sl 3 (List.map e_ref07_Cell [(⟨x21,x22,true⟩:ref07_Cell)]),.val (env20 20),dP (blk p2),.dead]) (fun D env20=>[.var (blk p1) [.val (.slice none 0 0),dN 0,dT false] 60,(bif D 22 then .var (blk p2) [.val (env20 20),dN a1.fEnd,dT false] 60 else .var (blk p2) [.val y7,dN a1.fEnd,dT false] 60),(bif D 20 then .row (env20 20) (List.map e_ref07_Cell x23) 3 151 else .row y7 (List.map e_ref07_Cell s8.2) 3 151),.var (blk p18) [dN x17.fRaw.fAt,dN x17.fRaw.fN,dN x17.fKind,.sl 1 (List.map (eI .i64) x17.fBytes)] 276]) [0,1,0,0,8,28,0,0,128,384,0,1024,3072,0,8192,24576,64512,131008,262140,524284,1048575,2097151,4194303] [0,4,5,6,18,19,20] _ (by decide +kernel) (by decide +kernel) (fun _=>rfl) (fun _=>rfl) ?_ (fun _=>rfl) (fun _=>rfl) ?_;rotate_left
 ·intro env20;show T X _ _ _;refine T.region ?_;iterate 2 refine aA rfl rfl ?_
  refine TL.nil ?_;obtain rfl:=osi q12;exact⟨m10,Nat.lt_succ_self _,_,gP [0,4,5,6,18,19,20] [0,1,2] rfl rfl rfl,(env20 20),(w64 (s8.1+1),x23),rfl,i13⟩
 refine aC ?_;refine OpsS.cons' true ?_ (fun _ _ _ _ _ _ _=>rfl) ?_
 ·intro D env20 hA;have e20:D 20=false:=hA.no 20 _ rfl rfl;have e22:D 22=false:=hA.no 22 _ rfl rfl;exact OpS.yp [(20,false),(22,false)] ⟨e20,e22,trivial⟩ (Want.plain rfl) (OpR.loadPtr 1 rfl rfl rfl rfl) (fun x=>rfl) (fun x=>rfl)
 iterate 2 refine aC ?_
 refine oT (.sl 1 (List.map (eI .i64) x17.fBytes)) (fun _ _=>OpR.loadPtr 3 rfl rfl rfl rfl) ?_;refine oT (.val (.string (bs x21))) (fun _ _=>OpR.call0 fn197 (ref05_Text_c hx21) rfl) ?_;iterate 3 refine aC ?_
 refine oT ((dN x17.fRaw.fAt)) (fun _ _=>OpR.loadPtr 3 rfl rfl rfl rfl) ?_;iterate 2 refine aC ?_
 refine oT ((dN x17.fRaw.fAt)) (fun _ _=>OpR.loadPtr 3 rfl rfl rfl rfl) ?_;iterate 2 refine aC ?_
 refine oT ((dN x17.fRaw.fN)) (fun _ _=>OpR.loadPtr 3 rfl rfl rfl rfl) ?_;refine aC ?_;refine oT (.val (.string (bs x22))) (fun _ _=>OpR.sliceS hx22 rfl rfl rfl (BdM.some rfl) (BdM.some rfl)) ?_;refine oT (.agg [.val (.string (bs x21)),.val (.string (bs x22)),dT true]) (fun _ _=>OpR.build rfl rfl rfl rfl rfl) ?_;refine oT (.sl 3 (List.map e_ref07_Cell [(⟨x21,x22,true⟩:ref07_Cell)])) (fun _ _=>OpR.lit rfl rfl rfl rfl rfl rfl rfl) ?_;refine OpsS.cons' true ?_ (fun D hA env20 x j hj hD=>match j,hj,hD with|0,_,_=>rfl|1,_,_=>rfl|2,_,_=>rfl|3,_,_=>rfl|4,_,_=>rfl|5,_,_=>rfl|6,_,_=>rfl|7,_,_=>rfl|8,_,_=>rfl|9,_,_=>rfl|10,_,_=>rfl|11,_,_=>rfl|12,_,_=>rfl|13,_,_=>rfl|14,_,_=>rfl|15,_,_=>rfl|16,_,_=>rfl|17,_,_=>rfl|18,_,_=>rfl|19,_,_=>rfl|20,hj,_=>absurd rfl hj|21,_,_=>rfl|22,_,_=>rfl|_+23,_,_=>rfl) ?_
 ·intro D env20 hA;have e22:D 22=false:=hA.no 22 _ rfl rfl;exact OpS.yp [(22,false),(20,false)] ⟨e22,hA.me,trivial⟩ (Want.plain rfl) (OpR.appendM (m:=[(⟨x21,x22,true⟩:ref07_Cell)]) e_ref07_Cell 2 hx23 rfl rfl rfl rfl rfl rfl rfl rfl rfl (fun _=>rfl)) (fun x=>rfl) (fun x=>rfl)
 refine aC ?_;refine OpsS.cons' true ?_ (fun _ _ _ _ _ _ _=>rfl) ?_
 ·intro D env20 hA;have e20:D 20=true:=hA.yes 20 _ rfl rfl;exact OpS.yp [(20,true),(22,false)] ⟨e20,hA.me,trivial⟩ (Want.plain rfl) (OpR.store 1 rfl rfl rfl rfl rfl rfl rfl rfl) (fun x=>rfl) (fun x=>rfl)
 exact trivial
noncomputable def ref11_Load.l1 (a0:List UInt8) (x4:(List ref05_Row)) (s10:Int × Bool × (List ref08_Row)):Option (Lp (Int × Bool × (List ref08_Row)) (Ex (Bool × (List ref08_Row)) (ref11_Grid × Int))):=
 if s10.1<(x4.length:Int) then
 bnd (idx x4 s10.1) fun x19=>
 bnd (ref08_Load a0 x19) fun x21=>
 if x21.2=0 then
 bnd (app 40 s10.2.2 [x21.1]) fun x24=>
 some (Lp.next (w64 (s10.1+1),(!(x19.fEnd==0)),x24))
else
 some (Lp.done (Ex.ret ((⟨[],false,2⟩:ref11_Grid),x21.2)))
else
 some (Lp.done (Ex.brk (s10.2.1,s10.2.2)))
noncomputable def ref11_Load.l2 (x4:(List ref05_Row)) (s27:Int × Int):Option (Lp (Int × Int) Int):=
 if s27.1≥0 then
 bnd (idx x4 s27.1) fun x36=>
 bnd (if x36.fEnd=0 then
 some s27.2
else
 some x36.fEnd:Option Int) fun t37=>
 some (Lp.next (w64 (s27.1-1),t37))
else
 some (Lp.done s27.2)
noncomputable def ref11_Load (a0:List UInt8):Option (ref11_Grid × Int):=
 if (a0.length:Int)>4096 then
 some ((⟨[],false,2⟩:ref11_Grid),8)
else
 bnd (ref05_All a0) fun x4=>
 if (x4.length:Int)>400 then
 some ((⟨[],false,2⟩:ref11_Grid),6)
else
 bnd (loop (ref11_Load.l1 a0 x4) (0,false,[]):Option (Ex (Bool × (List ref08_Row)) (ref11_Grid × Int))) fun t6=>match t6 with
| .brk u7=>
 bnd (loop (ref11_Load.l2 x4) (w64 ((x4.length:Int)-1),2):Option Int) fun t26=>
 some ((⟨u7.2,u7.1,t26⟩:ref11_Grid),0)
| .ret u7=>some u7
theorem ref11_Load_c {a0:List UInt8} {res:ref11_Grid × Int} (h0:ref11_Load a0=some res):CallF X 68 [.val (.string (bs a0))] [] (fun x=>.tup [.agg [.sl 3 (List.map e_ref08_Row res.1.fRows),dT res.1.fTail,dN res.1.fEnd],dN res.2]) (fun x=>[]):=by
 unfold ref11_Load at h0;refine CallF.mkG (X:=X) rfl Tryz.func68 rfl rfl Tryz.ntmps68 rfl rfl ?_;refine aS ?_;refine TL.op (OpR.alloc rfl rfl (fun _=>rfl)) rfl (fun p1=>?_);refine aA rfl rfl ?_;refine aN rfl ?_;refine aS ?_;refine TL.op1 (OpR.build rfl rfl rfl rfl rfl) rfl ?_;refine TL.op (OpR.alloc rfl rfl (fun _=>rfl)) rfl (fun p2=>?_);refine TL.op0 (OpR.store 1 rfl rfl rfl rfl rfl rfl rfl rfl) ?_;refine aN rfl ?_;refine T.seq ?_;refine aS ?_;refine aA rfl rfl ?_;refine TL.op1 (OpR.cast (OpR.pure rfl) (intE (lenS _))) rfl ?_;refine aA rfl rfl ?_;refine aN rfl ?_;rcases ite_some h0 with ⟨c3,h0⟩|⟨c3,h0⟩
 ·refine T.condT rfl (eT c3) ?_;refine aS ?_;refine TL.op1 (OpR.loadPtr 1 rfl rfl rfl rfl) rfl ?_;refine TL.op0 (OpR.store 0 rfl rfl rfl rfl rfl rfl rfl rfl) ?_;refine aA rfl rfl ?_;refine aN rfl ?_;refine T.ret ?_;obtain rfl:=osi h0;exact PostG.retP (ks:=[]) (Gst.trans (Gst.only [2,3] rfl) (Gst.trans (Gst.denil (ReS.cons Re.refl (ReS.cons Re.refl ReS.nil)) (ReO.var (ReL.cons (Re.base .nil) (ReL.cons Re.refl (ReL.cons Re.refl ReL.nil))) (ReO.same ReO.nil))) (Gst.pick [0] rfl rfl))) undef (cV 0 rfl rfl rfl rfl (cT rfl ResL.nil)) rfl rfl rfl rfl
 refine T.condF rfl (eF c3) ?_;refine aK rfl ?_;refine aS ?_;refine aA rfl rfl ?_;obtain⟨x4,hx4,h0⟩:=bS h0;refine TL.op1 (OpR.call0 fn133 (ref05_All_c hx4) rfl) rfl ?_;refine aA rfl rfl ?_;refine aN rfl ?_;refine T.seq ?_;refine aS ?_;refine aA rfl rfl ?_;refine TL.op1 (OpR.cast (OpR.pure rfl) (intE (lenM _ _))) rfl ?_;refine aA rfl rfl ?_;refine aN rfl ?_;rcases ite_some h0 with ⟨c5,h0⟩|⟨c5,h0⟩
 ·refine T.condT rfl (eT c5) ?_;refine aS ?_;refine TL.op1 (OpR.loadPtr 1 rfl rfl rfl rfl) rfl ?_;refine TL.op0 (OpR.store 0 rfl rfl rfl rfl rfl rfl rfl rfl) ?_;refine aA rfl rfl ?_;refine aN rfl ?_;refine T.ret ?_;obtain rfl:=osi h0;exact PostG.retP (ks:=[]) (Gst.trans (Gst.only [2,3] rfl) (Gst.trans (Gst.denil (ReS.cons Re.refl (ReS.cons Re.refl ReS.nil)) (ReO.var (ReL.cons (Re.base .nil) (ReL.cons Re.refl (ReL.cons Re.refl ReL.nil))) (ReO.same ReO.nil))) (Gst.pick [0] rfl rfl))) undef (cV 0 rfl rfl rfl rfl (cT rfl ResL.nil)) rfl rfl rfl rfl
 refine T.condF rfl (eF c5) ?_;refine aK rfl ?_;refine T.seq ?_;refine aS ?_;refine aA rfl rfl ?_;refine TL.op1 (OpR.cast (OpR.pure rfl) (intE (lenM _ _))) rfl ?_;refine aA rfl rfl ?_;refine aN rfl ?_;obtain⟨t6,ht6,h0⟩:=bS h0;refine T.cutC (fun S'=>∃ u7,t6=Ex.brk u7∧∃ y8:Value,S'=⟨[(5,.sl 2 (List.map e_ref05_Row x4)),(4,(dP (blk p2))),(3,(dN 0)),(2,(dP (blk p1)))],[.var (blk p1) [.val (.slice none 0 0),dT false,dN 0] 31,.var (blk p2) [.val y8,dT u7.1,dN 2] 31,.row y8 (List.map e_ref08_Row u7.2) 3 60],69⟩) (fun _ h=>h) ?_ ?_;rotate_left
 ·rintro _ ⟨u7,rfl,y8,rfl⟩;show T X _ _ _;refine T.seq ?_;refine aS ?_;refine aA rfl rfl ?_;refine TL.op1 (OpR.cast (OpR.pure rfl) (intE (lenM _ _))) rfl ?_;iterate 2 refine aA rfl rfl ?_
  refine aN rfl ?_;obtain⟨t26,ht26,h0⟩:=bS h0;refine T.cutC (fun S'=>S'=⟨[(4,(dP (blk p2))),(3,(dN 0)),(2,(dP (blk p1)))],[.var (blk p1) [.val (.slice none 0 0),dT false,dN 0] 31,.var (blk p2) [.val y8,dT u7.1,dN t26] 31,.row y8 (List.map e_ref08_Row u7.2) 3 60],69⟩) (fun _ h=>h) ?_ ?_;rotate_left
  ·rintro _ rfl;show T X _ _ _;refine aS ?_;refine TL.op1 (OpR.loadPtr 1 rfl rfl rfl rfl) rfl ?_;refine TL.op0 (OpR.store 0 rfl rfl rfl rfl rfl rfl rfl rfl) ?_;refine aA rfl rfl ?_;refine aN rfl ?_;refine T.ret ?_;obtain rfl:=osi h0;exact PostG.retP (ks:=[]) (Gst.trans (Gst.only [2,3] rfl) (Gst.trans (Gst.freezeRow 2 rfl rfl (ReS.cons Re.refl (ReS.cons Re.refl ReS.nil)) (ReO.var (ReL.cons (Re.base .all) (ReL.cons Re.refl (ReL.cons Re.refl ReL.nil))) (ReO.var (ReL.cons (Re.base .all) (ReL.cons Re.refl (ReL.cons Re.refl ReL.nil))) (ReO.same ReO.nil)))) (Gst.pick [0] rfl rfl))) undef (cV 0 rfl rfl rfl rfl (cT rfl ResL.nil)) rfl rfl rfl rfl
  refine T.block ?_;obtain⟨n28,n33⟩:=loop_some ht26;refine T.loop (fun n S'=>∃ S'',Gst S' S''∧∃ s27:Int × Int,S''=⟨[(10,(dN s27.1)),(5,.sl 2 (List.map e_ref05_Row x4)),(4,(dP (blk p2))),(3,(dN 0)),(2,(dP (blk p1)))],[.var (blk p1) [.val (.slice none 0 0),dT false,dN 0] 31,.var (blk p2) [.val y8,dT u7.1,dN s27.2] 31,.row y8 (List.map e_ref08_Row u7.2) 3 60],69⟩∧iter (ref11_Load.l2 x4) n s27=some t26) n28 ?_ ?_
  ·exact⟨_,Gst.only [2,3,4,5,10] rfl,(w64 ((x4.length:Int)-1),2),rfl,n33⟩
  rintro n28 _ ⟨_,g,s27,rfl,i32⟩;refine T.ghost g ?_;obtain⟨m29,q30,rfl,q31,i32⟩:=iter_succ i32;unfold ref11_Load.l2 at q31;refine T.seq ?_;refine aS ?_;iterate 2 refine aA rfl rfl ?_
  refine aN rfl ?_;rcases ite_some q31 with ⟨c35,q31⟩|⟨c35,q31⟩;rotate_left
  ·refine T.condF rfl (eF c35) ?_;refine T.exit ?_;obtain rfl:=osi q31;obtain rfl:_=_:=i32;exact⟨_,Gst.only [2,3,4] rfl,rfl⟩
  refine T.condT rfl (eT c35) ?_;refine aK rfl ?_;refine T.seq ?_;refine T.block ?_;refine aS ?_;iterate 2 refine aA rfl rfl ?_
  obtain⟨x36,hx36,q31⟩:=bS q31;refine TL.op1 (OpR.indexM e_ref05_Row hx36 rfl rfl rfl rfl rfl) rfl ?_;iterate 3 refine aA rfl rfl ?_
  refine aN rfl ?_;obtain⟨t37,ht37,q31⟩:=bS q31;refine T.cutC (fun S'=>S'=⟨[(10,(dN s27.1)),(5,.sl 2 (List.map e_ref05_Row x4)),(4,(dP (blk p2))),(3,(dN 0)),(2,(dP (blk p1)))],[.var (blk p1) [.val (.slice none 0 0),dT false,dN 0] 31,.var (blk p2) [.val y8,dT u7.1,dN t37] 31,.row y8 (List.map e_ref08_Row u7.2) 3 60],69⟩) (fun _ h=>h) ?_ ?_;rotate_left
  ·rintro _ rfl;show T X _ _ _;refine T.region ?_;iterate 3 refine aA rfl rfl ?_
   refine TL.nil ?_;obtain rfl:=osi q31;exact⟨m29,Nat.lt_succ_self _,_,Gst.only [2,3,4,5,10] rfl,(w64 (s27.1-1),t37),rfl,i32⟩
  rcases ite_some ht37 with ⟨c38,ht37⟩|⟨c38,ht37⟩
  ·refine T.condF rfl (not_t (beq_iff_eq.2 c38)) ?_;refine T.skip ?_;obtain rfl:=osi ht37;exact⟨_,Gst.only [2,3,4,5,10] rfl,rfl⟩
  refine T.condT rfl (not_f (beq_eq_false_iff_ne.2 c38)) ?_;refine T.region ?_;iterate 2 refine aA rfl rfl ?_
  refine TL.op1 (OpR.indexM e_ref05_Row hx36 rfl rfl rfl rfl rfl) rfl ?_;iterate 3 refine aA rfl rfl ?_
  refine TL.op0 (OpR.store 1 rfl rfl rfl rfl rfl rfl rfl rfl) ?_;refine TL.nil ?_;obtain rfl:=osi ht37;exact⟨_,Gst.only [2,3,4,5,10] rfl,rfl⟩
 refine T.block ?_;obtain⟨n11,n16⟩:=loop_some ht6;refine T.loop (fun n S'=>∃ S'',Gst S' S''∧∃ y9:Value,∃ s10:Int × Bool × (List ref08_Row),S''=⟨[(24,(dN s10.1)),(23,(dN (x4.length:Int))),(22,.sl 2 (List.map e_ref05_Row x4)),(5,.sl 2 (List.map e_ref05_Row x4)),(4,(dP (blk p2))),(3,(dN 0)),(2,(dP (blk p1))),(0,.val (.string (bs a0)))],[.var (blk p1) [.val (.slice none 0 0),dT false,dN 0] 31,.var (blk p2) [.val y9,dT s10.2.1,dN 2] 31,.row y9 (List.map e_ref08_Row s10.2.2) 3 60],69⟩∧iter (ref11_Load.l1 a0 x4) n s10=some t6) n11 ?_ ?_
 ·exact⟨_,Gst.trans (Gst.only [0,2,3,4,5,22,23,24] rfl) (Gst.nilRow (ow:=[.var (blk p1) [.val (.slice none 0 0),dT false,dN 0] 31,.var (blk p2) [.val (.slice none 0 0),dT false,dN 2] 31]) 3 60 rfl),(.slice none 0 0),(0,false,[]),rfl,n16⟩
 rintro n11 _ ⟨_,g,y9,s10,rfl,i15⟩;refine T.ghost g ?_;obtain⟨m12,q13,rfl,q14,i15⟩:=iter_succ i15;unfold ref11_Load.l1 at q14;refine aS ?_;refine aA rfl rfl ?_;refine aN rfl ?_;refine T.seq ?_;rcases ite_some q14 with ⟨c18,q14⟩|⟨c18,q14⟩;rotate_left
 ·refine T.condF rfl (eF c18) ?_;refine T.exit ?_;obtain rfl:=osi q14;obtain rfl:_=_:=i15;exact⟨_,Gst.only [2,3,4,5] rfl,_,rfl,y9,rfl⟩
 refine T.condT rfl (eT c18) ?_;refine aK rfl ?_;refine T.seq ?_;refine T.block ?_;refine aS ?_;obtain⟨x19,hx19,q14⟩:=bS q14;refine TL.op1 (OpR.indexM e_ref05_Row hx19 rfl rfl rfl rfl rfl) rfl ?_;refine aA rfl rfl ?_;refine TL.op (OpR.alloc rfl rfl (fun _=>rfl)) rfl (fun p20=>?_);refine TL.op0 (OpR.store 3 rfl rfl rfl rfl rfl rfl rfl rfl) ?_;refine aN rfl ?_;refine aS ?_;refine aA rfl rfl ?_;refine TL.op1 (OpR.loadPtr 3 rfl rfl rfl rfl) rfl ?_;obtain⟨x21,hx21,q14⟩:=bS q14;refine TL.op1 (OpR.call0 fn134 (ref08_Load_c hx21) rfl) rfl ?_;iterate 3 refine aA rfl rfl ?_
 refine TL.op (OpR.alloc rfl rfl (fun _=>rfl)) rfl (fun p22=>?_);refine TL.op0 (OpR.store 4 rfl rfl rfl rfl rfl rfl rfl rfl) ?_;refine aA rfl rfl ?_;refine aN rfl ?_;refine T.seq ?_;refine aS ?_;iterate 2 refine aA rfl rfl ?_
 refine aN rfl ?_;rcases ite_some q14 with ⟨c23,q14⟩|⟨c23,q14⟩;rotate_left
 ·refine T.condT rfl (not_f (beq_eq_false_iff_ne.2 c23)) ?_;refine aS ?_;refine TL.op1 (OpR.build rfl rfl rfl rfl rfl) rfl ?_;refine aA rfl rfl ?_;refine TL.op0 (OpR.store 0 rfl rfl rfl rfl rfl rfl rfl rfl) ?_;refine aA rfl rfl ?_;refine aN rfl ?_;refine T.ret ?_;obtain rfl:=osi q14;obtain rfl:_=_:=i15;obtain rfl:=osi h0;exact PostG.retP (ks:=[]) (Gst.trans (Gst.only [2,3] rfl) (Gst.trans (Gst.denil (ReS.cons Re.refl (ReS.cons Re.refl ReS.nil)) (ReO.var (ReL.cons (Re.base .nil) (ReL.cons Re.refl (ReL.cons Re.refl ReL.nil))) (ReO.same (ReO.same (ReO.same (ReO.same ReO.nil)))))) (Gst.pick [0] rfl rfl))) undef (cV 0 rfl rfl rfl rfl (cT rfl ResL.nil)) rfl rfl rfl rfl
 refine T.condF rfl (not_t (beq_iff_eq.2 c23)) ?_;refine aK rfl ?_;refine aS ?_;refine aA rfl rfl ?_;refine TL.op1 (OpR.loadPtr 1 rfl rfl rfl rfl) rfl ?_;refine TL.op1 (OpR.loadPtr 4 rfl rfl rfl rfl) rfl ?_;refine TL.op1 (OpR.lit rfl rfl rfl rfl rfl rfl rfl) rfl ?_;obtain⟨x24,hx24,q14⟩:=bS q14;refine TL.op (OpR.appendM (m:=[x21.1]) e_ref08_Row 2 hx24 rfl rfl rfl rfl rfl rfl rfl rfl rfl (fun _=>rfl)) rfl (fun v25=>?_);refine aA rfl rfl ?_;refine TL.op0 (OpR.store 1 rfl rfl rfl rfl rfl rfl rfl rfl) ?_;refine aN rfl ?_;refine T.region ?_;refine aA rfl rfl ?_;refine TL.op1 (OpR.loadPtr 3 rfl rfl rfl rfl) rfl ?_;iterate 2 refine aA rfl rfl ?_
 refine TL.op0 (OpR.store 1 rfl rfl rfl rfl rfl rfl rfl rfl) ?_;refine aN rfl ?_;refine T.region ?_;iterate 2 refine aA rfl rfl ?_
 refine TL.nil ?_;obtain rfl:=osi q14;exact⟨m12,Nat.lt_succ_self _,_,gP [0,2,3,4,5,22,23,24] [0,1,2] rfl rfl rfl,v25,(w64 (s10.1+1),(!(x19.fEnd==0)),x24),rfl,i15⟩
noncomputable def law11_Begun (a0:List UInt8):Option ((grid_Grid × ref11_Grid × Bool × (List UInt8)) ⊕ (grid_Grid × ref11_Grid)):=
 bnd (grid_Load a0) fun x3=>
 match x3 with
| .inl x3=>
 bnd (ref11_Load a0) fun x6=>
 bnd (if x3.2.1=0 then
 some ((x6.2==0),x3.1.fRows.fRoot,x3.1.fTail,x3.1.fEnd,x6.1.fRows,x6.1.fTail,x6.1.fEnd)
else
 some (false,x3.1.fRows.fRoot,x3.1.fTail,x3.1.fEnd,x6.1.fRows,x6.1.fTail,x6.1.fEnd):Option (Bool × (Option NP) × Bool × Int × (List ref08_Row) × Bool × Int)) fun t8=>
 some (Sum.inl ((⟨(⟨t8.2.1⟩:tTr),t8.2.2.1,t8.2.2.2.1⟩:grid_Grid),(⟨t8.2.2.2.2.1,t8.2.2.2.2.2.1,t8.2.2.2.2.2.2⟩:ref11_Grid),t8.1,x3.2.2))
| .inr x3=>
 bnd (ref11_Load a0) fun x12=>
 some (Sum.inr (x3.1,x12.1))
theorem law11_Begun_c {a0:List UInt8} {res:(grid_Grid × ref11_Grid × Bool × (List UInt8)) ⊕ (grid_Grid × ref11_Grid)} (h0:law11_Begun a0=some res):CallF X 14 [.val (.string (bs a0))] [] (fun x=>(match res with | .inl res=>.tup [.agg [(eOP res.1.fRows.fRoot),dT res.1.fTail,dN res.1.fEnd],dP (blk (vn x 0)),.agg [.sl 3 (List.map e_ref08_Row res.2.1.fRows),dT res.2.1.fTail,dN res.2.1.fEnd],dT res.2.2.1] | .inr res=>.tup [.agg [(eOP res.1.fRows.fRoot),dT res.1.fTail,dN res.1.fEnd],dQ,.agg [.sl 3 (List.map e_ref08_Row res.2.fRows),dT res.2.fTail,dN res.2.fEnd],dT false])) (fun x=>(match res with | .inl res=>[.var (blk (vn x 0)) [.val (vn x 1)] 264,.row (vn x 1) (lB res.2.2.2) 1 5] | .inr res=>[])):=by
 unfold law11_Begun at h0;refine CallF.mkG (X:=X) rfl Tryz.func14 rfl rfl Tryz.ntmps14 rfl rfl ?_;refine aS ?_;refine TL.op (OpR.alloc rfl rfl (fun _=>rfl)) rfl (fun p1=>?_);refine aA rfl rfl ?_;refine TL.op (OpR.alloc rfl rfl (fun _=>rfl)) rfl (fun p2=>?_);refine aA rfl rfl ?_;refine aN rfl ?_;refine aS ?_;refine aA rfl rfl ?_;refine TL.op1 (OpR.toBytesM rfl rfl rfl rfl rfl rfl rfl) rfl ?_;obtain⟨x3,hx3,h0⟩:=bS h0;rcases x3 with x3|x3;rotate_left
 ·dsimp only at h0;refine TL.op1 (OpR.call0 fn67 (grid_Load_cx2 hx3) rfl) rfl ?_;iterate 4 refine aA rfl rfl ?_
  refine TL.op (OpR.alloc rfl rfl (fun _=>rfl)) rfl (fun p11=>?_);refine TL.op0 (OpR.store 2 rfl rfl rfl rfl rfl rfl rfl rfl) ?_;iterate 2 refine aA rfl rfl ?_
  refine aN rfl ?_;refine aS ?_;refine aA rfl rfl ?_;obtain⟨x12,hx12,h0⟩:=bS h0;refine TL.op1 (OpR.call0 fn68 (ref11_Load_c hx12) rfl) rfl ?_;iterate 3 refine aA rfl rfl ?_
  refine TL.op (OpR.alloc rfl rfl (fun _=>rfl)) rfl (fun p13=>?_);refine TL.op0 (OpR.store 3 rfl rfl rfl rfl rfl rfl rfl rfl) ?_;refine aA rfl rfl ?_;refine aN rfl ?_;refine T.seq ?_;refine T.drawS drawsX (fun env14=>[.agg [(eOP x3.1.fRows.fRoot),dT x3.1.fTail,dN x3.1.fEnd],dQ,.agg [.sl 3 (List.map e_ref08_Row x12.1.fRows),dT x12.1.fTail,dN x12.1.fEnd],dQ,dT false,dT false,.tup [],.tup [],dT false,dT false,.tup [],.tup [],dT false,.dead,dQ,.dead,dT false]) (fun D env14=>[(bif D 13 then .var (blk p1) [(eOP x3.1.fRows.fRoot),dT x3.1.fTail,dN x3.1.fEnd] 27 else .var (blk p1) [(eOP none),dT false,dN 0] 27),(bif D 15 then .var (blk p2) [.sl 3 (List.map e_ref08_Row x12.1.fRows),dT x12.1.fTail,dN x12.1.fEnd] 31 else .var (blk p2) [.val (.slice none 0 0),dT false,dN 0] 31),.var (blk p11) [(eOP x3.1.fRows.fRoot),dT x3.1.fTail,dN x3.1.fEnd] 27,.var (blk p13) [.sl 3 (List.map e_ref08_Row x12.1.fRows),dT x12.1.fTail,dN x12.1.fEnd] 31]) [0,0,0,0,8,24,56,120,248,504,1016,2040,4088,1017,9211,25599,65535] [2,3,4,5] _ (by decide +kernel) (by decide +kernel) (fun _=>rfl) (fun _=>rfl) ?_ (fun _=>rfl) (fun _=>rfl) ?_;rotate_left
  ·intro env14;show T X _ _ _;refine T.ret ?_;obtain rfl:=osi h0;exact rP [] [2,3,4,5] [0,1] rfl rfl rfl undef (cV 0 rfl rfl rfl rfl (cT rfl (cV 1 rfl rfl rfl rfl (cT rfl ResL.nil)))) rfl rfl rfl rfl
  refine oT (.agg [(eOP x3.1.fRows.fRoot),dT x3.1.fTail,dN x3.1.fEnd]) (fun _ _=>OpR.loadPtr 2 rfl rfl rfl rfl) ?_;refine aC ?_;refine oT (.agg [.sl 3 (List.map e_ref08_Row x12.1.fRows),dT x12.1.fTail,dN x12.1.fEnd]) (fun _ _=>OpR.loadPtr 3 rfl rfl rfl rfl) ?_;refine aC ?_;refine oT ((dT false)) (fun _ _=>OpR.ptrNe (A:=none) rfl rfl rfl) ?_;refine aC ?_;refine OpsS.cons' false (fun D env14 hA=>OpS.no (Want.bool rfl rfl rfl rfl rfl) rfl rfl) (fun _ _ _ _ _ _ _=>rfl) ?_;refine OpsS.cons' false (fun D env14 hA=>OpS.no (Want.bool rfl rfl rfl rfl rfl) rfl rfl) (fun _ _ _ _ _ _ _=>rfl) ?_;refine oT ((dT false)) (fun _ _=>OpR.pickF rfl rfl rfl) ?_;refine aC ?_;refine OpsS.cons' false (fun D env14 hA=>OpS.no (Want.bool rfl rfl rfl rfl rfl) rfl rfl) (fun _ _ _ _ _ _ _=>rfl) ?_;refine OpsS.cons' false (fun D env14 hA=>OpS.no (Want.bool rfl rfl rfl rfl rfl) rfl rfl) (fun _ _ _ _ _ _ _=>rfl) ?_;refine oT ((dT false)) (fun _ _=>OpR.pickF rfl rfl rfl) ?_;refine OpsS.cons' true ?_ (fun _ _ _ _ _ _ _=>rfl) ?_
  ·intro D env14 hA;have e15:D 15=false:=hA.no 15 _ rfl rfl;exact OpS.yp [(15,false),(13,false)] ⟨e15,hA.me,trivial⟩ (Want.plain rfl) (OpR.store 0 rfl rfl rfl rfl rfl rfl rfl rfl) (fun x=>rfl) (fun x=>rfl)
  refine aC ?_;refine OpsS.cons' true ?_ (fun _ _ _ _ _ _ _=>rfl) ?_
  ·intro D env14 hA;have e13:D 13=true:=hA.yes 13 _ rfl rfl;exact OpS.yp [(13,true),(15,false)] ⟨e13,hA.me,trivial⟩ (Want.plain rfl) (OpR.store 1 rfl rfl rfl rfl rfl rfl rfl rfl) (fun x=>rfl) (fun x=>rfl)
  refine aC ?_;exact trivial
 dsimp only at h0;refine TL.op (OpR.call [] fn67 (grid_Load_cx1 hx3) rfl rfl rfl (fun _=>rfl)) rfl (fun w4=>?_);iterate 4 refine aA rfl rfl ?_
 refine TL.op (OpR.alloc rfl rfl (fun _=>rfl)) rfl (fun p5=>?_);refine TL.op0 (OpR.store 4 rfl rfl rfl rfl rfl rfl rfl rfl) ?_;iterate 2 refine aA rfl rfl ?_
 refine aN rfl ?_;refine aS ?_;refine aA rfl rfl ?_;obtain⟨x6,hx6,h0⟩:=bS h0;refine TL.op1 (OpR.call0 fn68 (ref11_Load_c hx6) rfl) rfl ?_;iterate 3 refine aA rfl rfl ?_
 refine TL.op (OpR.alloc rfl rfl (fun _=>rfl)) rfl (fun p7=>?_);refine TL.op0 (OpR.store 5 rfl rfl rfl rfl rfl rfl rfl rfl) ?_;refine aA rfl rfl ?_;refine aN rfl ?_;refine T.seq ?_;obtain⟨t8,ht8,h0⟩:=bS h0;refine T.cutC (fun S'=>S'=⟨[(5,(dT t8.1)),(4,(dP (blk p2))),(3,(dP (blk (vn w4 0)))),(2,(dP (blk p1)))],[.var (blk p1) [(eOP t8.2.1),dT t8.2.2.1,dN t8.2.2.2.1] 27,.var (blk (vn w4 0)) [.val (vn w4 1)] 264,.var (blk p2) [.sl 3 (List.map e_ref08_Row t8.2.2.2.2.1),dT t8.2.2.2.2.2.1,dN t8.2.2.2.2.2.2] 31,.row (vn w4 1) (lB x3.2.2) 1 5],36⟩) (fun _ h=>h) ?_ ?_;rotate_left
 ·rintro _ rfl;show T X _ _ _;refine T.ret ?_;obtain rfl:=osi h0;exact rO [1,3] [2,3,4,5] rfl (.tuple #[(vn w4 0),(vn w4 1)]) (cV 0 rfl rfl rfl rfl (cT rfl (cV 2 rfl rfl rfl rfl (cT rfl ResL.nil)))) rfl rfl rfl rfl
 rcases ite_some ht8 with ⟨c10,ht8⟩|⟨c10,ht8⟩;rotate_left
 ·refine T.drawS drawsX (fun env9=>[.agg [(eOP x3.1.fRows.fRoot),dT x3.1.fTail,dN x3.1.fEnd],dP (blk (vn w4 0)),.agg [.sl 3 (List.map e_ref08_Row x6.1.fRows),dT x6.1.fTail,dN x6.1.fEnd],dP (blk (vn w4 0)),dT true,dT true,dN x3.2.1,dT (x3.2.1==0),dT (x3.2.1==0),dT (x3.2.1==0),.tup [],.tup [],dT false,.dead,dP (blk (vn w4 0)),.dead,dT false]) (fun D env9=>[(bif D 13 then .var (blk p1) [(eOP x3.1.fRows.fRoot),dT x3.1.fTail,dN x3.1.fEnd] 27 else .var (blk p1) [(eOP none),dT false,dN 0] 27),(bif D 15 then .var (blk p2) [.sl 3 (List.map e_ref08_Row x6.1.fRows),dT x6.1.fTail,dN x6.1.fEnd] 31 else .var (blk p2) [.val (.slice none 0 0),dT false,dN 0] 31),.var (blk (vn w4 0)) [.val (vn w4 1)] 264,.row (vn w4 1) (lB x3.2.2) 1 5,.var (blk p5) [(eOP x3.1.fRows.fRoot),dT x3.1.fTail,dN x3.1.fEnd] 27,.var (blk p7) [.sl 3 (List.map e_ref08_Row x6.1.fRows),dT x6.1.fTail,dN x6.1.fEnd] 31]) [0,0,0,0,8,24,56,120,248,504,1016,2040,4088,1017,9211,25599,65535] [2,3,4,5] _ (by decide +kernel) (by decide +kernel) (fun _=>rfl) (fun _=>rfl) ?_ (fun _=>rfl) (fun _=>rfl) ?_;rotate_left
  ·intro env9;obtain rfl:=osi ht8;exact⟨_,gP [2,3,4,5] [0,2,1,3] rfl rfl rfl,rfl⟩
  refine oT (.agg [(eOP x3.1.fRows.fRoot),dT x3.1.fTail,dN x3.1.fEnd]) (fun _ _=>OpR.loadPtr 4 rfl rfl rfl rfl) ?_;refine aC ?_;refine oT (.agg [.sl 3 (List.map e_ref08_Row x6.1.fRows),dT x6.1.fTail,dN x6.1.fEnd]) (fun _ _=>OpR.loadPtr 5 rfl rfl rfl rfl) ?_;refine aC ?_;refine oT ((dT true)) (fun _ _=>OpR.ptrNe (A:=some ⟨(blk (vn w4 0)),0,none⟩) rfl rfl rfl) ?_;refine aC ?_;refine oS (d:=(dN x3.2.1)) (fun _=>Want.bool rfl rfl rfl rfl rfl) (fun _=>rfl) (fun _ _ _=>rfl) (fun _ _=>OpR.pure rfl) (fun _ _ _ _ _ _ _=>rfl) ?_;refine oS (d:=(dT (x3.2.1==0))) (fun _=>Want.bool rfl rfl rfl rfl rfl) (fun _=>rfl) (fun _ _ _=>rfl) (fun _ _=>OpR.pure rfl) (fun _ _ _ _ _ _ _=>rfl) ?_;refine oT ((dT (x3.2.1==0))) (fun _ _=>OpR.pickT rfl rfl rfl) ?_;refine aC ?_;refine OpsS.cons' false (fun D env9 hA=>OpS.no (Want.bool rfl rfl rfl rfl (by rw[(beq_eq_false_iff_ne.2 c10)]; rfl)) rfl rfl) (fun _ _ _ _ _ _ _=>rfl) ?_;refine OpsS.cons' false (fun D env9 hA=>OpS.no (Want.bool rfl rfl rfl rfl (by rw[(beq_eq_false_iff_ne.2 c10)]; rfl)) rfl rfl) (fun _ _ _ _ _ _ _=>rfl) ?_;refine oT ((dT false)) (fun _ _=>OpR.pickF rfl (beq_eq_false_iff_ne.2 c10) rfl) ?_;refine OpsS.cons' true ?_ (fun _ _ _ _ _ _ _=>rfl) ?_
  ·intro D env9 hA;have e15:D 15=false:=hA.no 15 _ rfl rfl;exact OpS.yp [(15,false),(13,false)] ⟨e15,hA.me,trivial⟩ (Want.plain rfl) (OpR.store 0 rfl rfl rfl rfl rfl rfl rfl rfl) (fun x=>rfl) (fun x=>rfl)
  refine aC ?_;refine OpsS.cons' true ?_ (fun _ _ _ _ _ _ _=>rfl) ?_
  ·intro D env9 hA;have e13:D 13=true:=hA.yes 13 _ rfl rfl;exact OpS.yp [(13,true),(15,false)] ⟨e13,hA.me,trivial⟩ (Want.plain rfl) (OpR.store 1 rfl rfl rfl rfl rfl rfl rfl rfl) (fun x=>rfl) (fun x=>rfl)
  refine aC ?_;exact trivial
 refine T.drawS drawsX (fun env9=>[.agg [(eOP x3.1.fRows.fRoot),dT x3.1.fTail,dN x3.1.fEnd],dP (blk (vn w4 0)),.agg [.sl 3 (List.map e_ref08_Row x6.1.fRows),dT x6.1.fTail,dN x6.1.fEnd],dP (blk (vn w4 0)),dT true,dT true,dN x3.2.1,dT (x3.2.1==0),dT (x3.2.1==0),dT (x3.2.1==0),dN x6.2,dT (x6.2==0),dT (x6.2==0),.dead,dP (blk (vn w4 0)),.dead,dT (x6.2==0)]) (fun D env9=>[(bif D 13 then .var (blk p1) [(eOP x3.1.fRows.fRoot),dT x3.1.fTail,dN x3.1.fEnd] 27 else .var (blk p1) [(eOP none),dT false,dN 0] 27),(bif D 15 then .var (blk p2) [.sl 3 (List.map e_ref08_Row x6.1.fRows),dT x6.1.fTail,dN x6.1.fEnd] 31 else .var (blk p2) [.val (.slice none 0 0),dT false,dN 0] 31),.var (blk (vn w4 0)) [.val (vn w4 1)] 264,.row (vn w4 1) (lB x3.2.2) 1 5,.var (blk p5) [(eOP x3.1.fRows.fRoot),dT x3.1.fTail,dN x3.1.fEnd] 27,.var (blk p7) [.sl 3 (List.map e_ref08_Row x6.1.fRows),dT x6.1.fTail,dN x6.1.fEnd] 31]) [0,0,0,0,8,24,56,120,248,504,1016,2040,4088,1017,9211,25599,65535] [2,3,4,5] _ (by decide +kernel) (by decide +kernel) (fun _=>rfl) (fun _=>rfl) ?_ (fun _=>rfl) (fun _=>rfl) ?_;rotate_left
 ·intro env9;obtain rfl:=osi ht8;exact⟨_,gP [2,3,4,5] [0,2,1,3] rfl rfl rfl,rfl⟩
 refine oT (.agg [(eOP x3.1.fRows.fRoot),dT x3.1.fTail,dN x3.1.fEnd]) (fun _ _=>OpR.loadPtr 4 rfl rfl rfl rfl) ?_;refine aC ?_;refine oT (.agg [.sl 3 (List.map e_ref08_Row x6.1.fRows),dT x6.1.fTail,dN x6.1.fEnd]) (fun _ _=>OpR.loadPtr 5 rfl rfl rfl rfl) ?_;refine aC ?_;refine oT ((dT true)) (fun _ _=>OpR.ptrNe (A:=some ⟨(blk (vn w4 0)),0,none⟩) rfl rfl rfl) ?_;refine aC ?_;refine oS (d:=(dN x3.2.1)) (fun _=>Want.bool rfl rfl rfl rfl rfl) (fun _=>rfl) (fun _ _ _=>rfl) (fun _ _=>OpR.pure rfl) (fun _ _ _ _ _ _ _=>rfl) ?_;refine oS (d:=(dT (x3.2.1==0))) (fun _=>Want.bool rfl rfl rfl rfl rfl) (fun _=>rfl) (fun _ _ _=>rfl) (fun _ _=>OpR.pure rfl) (fun _ _ _ _ _ _ _=>rfl) ?_;refine oT ((dT (x3.2.1==0))) (fun _ _=>OpR.pickT rfl rfl rfl) ?_;refine aC ?_;refine oS (d:=(dN x6.2)) (fun _=>Want.bool rfl rfl rfl rfl (by rw[(beq_iff_eq.2 c10)]; rfl)) (fun _=>rfl) (fun _ _ _=>rfl) (fun _ _=>OpR.pure rfl) (fun _ _ _ _ _ _ _=>rfl) ?_;refine oS (d:=(dT (x6.2==0))) (fun _=>Want.bool rfl rfl rfl rfl (by rw[(beq_iff_eq.2 c10)]; rfl)) (fun _=>rfl) (fun _ _ _=>rfl) (fun _ _=>OpR.pure rfl) (fun _ _ _ _ _ _ _=>rfl) ?_;refine oT ((dT (x6.2==0))) (fun _ _=>OpR.pickT rfl (beq_iff_eq.2 c10) rfl) ?_;refine OpsS.cons' true ?_ (fun _ _ _ _ _ _ _=>rfl) ?_
 ·intro D env9 hA;have e15:D 15=false:=hA.no 15 _ rfl rfl;exact OpS.yp [(15,false),(13,false)] ⟨e15,hA.me,trivial⟩ (Want.plain rfl) (OpR.store 0 rfl rfl rfl rfl rfl rfl rfl rfl) (fun x=>rfl) (fun x=>rfl)
 refine aC ?_;refine OpsS.cons' true ?_ (fun _ _ _ _ _ _ _=>rfl) ?_
 ·intro D env9 hA;have e13:D 13=true:=hA.yes 13 _ rfl rfl;exact OpS.yp [(13,true),(15,false)] ⟨e13,hA.me,trivial⟩ (Want.plain rfl) (OpR.store 1 rfl rfl rfl rfl rfl rfl rfl rfl) (fun x=>rfl) (fun x=>rfl)
 refine aC ?_;exact trivial
theorem law11_Begun_cx1 {a0:List UInt8} {res:grid_Grid × ref11_Grid × Bool × (List UInt8)} (h0:law11_Begun a0=some (Sum.inl res)):CallF X 14 [.val (.string (bs a0))] [] (fun x=>.tup [.agg [(eOP res.1.fRows.fRoot),dT res.1.fTail,dN res.1.fEnd],dP (blk (vn x 0)),.agg [.sl 3 (List.map e_ref08_Row res.2.1.fRows),dT res.2.1.fTail,dN res.2.1.fEnd],dT res.2.2.1]) (fun x=>[.var (blk (vn x 0)) [.val (vn x 1)] 264,.row (vn x 1) (lB res.2.2.2) 1 5]):=law11_Begun_c h0
theorem law11_Begun_cx2 {a0:List UInt8} {res:grid_Grid × ref11_Grid} (h0:law11_Begun a0=some (Sum.inr res)):CallF X 14 [.val (.string (bs a0))] [] (fun x=>.tup [.agg [(eOP res.1.fRows.fRoot),dT res.1.fTail,dN res.1.fEnd],dQ,.agg [.sl 3 (List.map e_ref08_Row res.2.fRows),dT res.2.fTail,dN res.2.fEnd],dT false]) (fun x=>[]):=law11_Begun_c h0
noncomputable def tree_Tree_row_Row_Len (a0:tTr):Option Int:=
 bnd (some a0.fRoot) fun q1=>match q1 with
| none=>
 some 0
| some z2=>
 bnd (o_tNd z2) fun x3=>
 some x3.fN
theorem tree_Tree_row_Row_Len_c {a0:tTr} {res:Int} (h0:tree_Tree_row_Row_Len a0=some res):CallF X 79 [.agg [(eOP a0.fRoot)]] [] (fun x=>(dN res)) (fun x=>[]):=by
 unfold tree_Tree_row_Row_Len at h0;refine CallF.mkG (X:=X) rfl Tryz.func79 rfl rfl Tryz.ntmps79 rfl rfl ?_;refine aS ?_;refine TL.op1 (OpR.boxImm rfl rfl) rfl ?_;refine aA rfl rfl ?_;refine aN rfl ?_;refine T.seq ?_;refine aS ?_;refine aA rfl rfl ?_;obtain⟨q1,hq1,h0⟩:=bS h0;rcases q1 with _|z2
 ·dsimp only at h0;refine TL.op1 (OpR.cast (OpR.pure rfl) (congrArg eOP (osi hq1))) rfl ?_;refine TL.op1 (OpR.ptrNil (A:=none) rfl rfl rfl) rfl ?_;refine aN rfl ?_;refine T.condT rfl rfl ?_;refine aS ?_;refine aA rfl rfl ?_;refine aN rfl ?_;refine T.ret ?_;obtain rfl:=osi h0;exact rO [] [2] rfl undef (cT rfl ResL.nil) rfl rfl rfl rfl
 dsimp only at h0;obtain⟨x3,hx3,h0⟩:=bS h0;rw[o_tNd_eq hx3] at hq1;refine TL.op1 (OpR.cast (OpR.pure rfl) (congrArg eOP (osi hq1))) rfl ?_;refine TL.op1 (OpR.nodNil rfl rfl rfl) rfl ?_;refine aN rfl ?_;refine T.condF rfl rfl ?_;refine aK rfl ?_;refine aS ?_;refine aA rfl rfl ?_;refine TL.op1 (OpR.cast (OpR.pure rfl) (congrArg eOP (osi hq1))) rfl ?_;iterate 4 refine aA rfl rfl ?_
 refine aN rfl ?_;refine T.ret ?_;obtain rfl:=osi h0;exact rO [] [2] rfl undef (cT rfl ResL.nil) rfl rfl rfl rfl
noncomputable def grid_Grid_Len (a0:grid_Grid):Option Int:=
 bnd (tree_Tree_row_Row_Len a0.fRows) fun x1=>
 some x1
theorem grid_Grid_Len_c {a0:grid_Grid} {res:Int} (h0:grid_Grid_Len a0=some res):CallF X 22 [.agg [(eOP a0.fRows.fRoot),dT a0.fTail,dN a0.fEnd]] [] (fun x=>(dN res)) (fun x=>[]):=by
 unfold grid_Grid_Len at h0;refine CallF.mkG (X:=X) rfl Tryz.func22 rfl rfl Tryz.ntmps22 rfl rfl ?_;refine aS ?_;refine TL.op1 (OpR.boxImm rfl rfl) rfl ?_;refine aA rfl rfl ?_;refine aN rfl ?_;refine aS ?_;iterate 2 refine aA rfl rfl ?_
 obtain⟨x1,hx1,h0⟩:=bS h0;refine TL.op1 (OpR.call0 fn79 (tree_Tree_row_Row_Len_c hx1) rfl) rfl ?_;refine aA rfl rfl ?_;refine aN rfl ?_;refine T.ret ?_;obtain rfl:=osi h0;exact rO [] [2] rfl undef (cT rfl ResL.nil) rfl rfl rfl rfl
noncomputable def tree_Tree_row_Row_has (a0:tTr) (a1:Int):Option Bool:=
 bnd (if a1≥0 then
 bnd (tree_Tree_row_Row_Len a0) fun x3=>
 some (decide (a1<x3))
else
 some false:Option Bool) fun t1=>
 some t1
theorem tree_Tree_row_Row_has_c {a0:tTr} {a1:Int} {res:Bool} (h0:tree_Tree_row_Row_has a0 a1=some res):CallF X 151 [.agg [(eOP a0.fRoot)],dN a1] [] (fun x=>(dT res)) (fun x=>[]):=by
 unfold tree_Tree_row_Row_has at h0;refine CallF.mkG (X:=X) rfl Tryz.func151 rfl rfl Tryz.ntmps151 rfl rfl ?_;refine aS ?_;refine TL.op1 (OpR.boxImm rfl rfl) rfl ?_;refine aA rfl rfl ?_;refine aN rfl ?_;refine T.seq ?_;obtain⟨t1,ht1,h0⟩:=bS h0;refine T.cutC (fun S'=>S'=⟨[(4,(dT t1))],[],13⟩) (fun _ h=>h) ?_ ?_;rotate_left
 ·rintro _ rfl;show T X _ _ _;refine T.ret ?_;obtain rfl:=osi h0;exact rO [] [4] rfl undef (cT rfl ResL.nil) rfl rfl rfl rfl
 refine T.region ?_;iterate 3 refine aA rfl rfl ?_
 rcases ite_some ht1 with ⟨c2,ht1⟩|⟨c2,ht1⟩;rotate_left
 ·refine TL.off rfl rfl rfl rfl (eF c2) rfl rfl ?_;refine TL.off rfl rfl rfl rfl (eF c2) rfl rfl ?_;refine TL.off rfl rfl rfl rfl (eF c2) rfl rfl ?_;refine TL.off rfl rfl rfl rfl (eF c2) rfl rfl ?_;refine TL.op1 (OpR.pickF rfl (eF c2) rfl) rfl ?_;refine aA rfl rfl ?_;refine TL.nil ?_;obtain rfl:=osi ht1;exact⟨_,Gst.only [4] rfl,rfl⟩
 refine TL.on rfl rfl rfl rfl (eT c2) ?_;refine aA rfl rfl ?_;refine TL.on rfl rfl rfl rfl (eT c2) ?_;refine aA rfl rfl ?_;refine TL.on rfl rfl rfl rfl (eT c2) ?_;obtain⟨x3,hx3,ht1⟩:=bS ht1;refine TL.op1 (OpR.call0 fn79 (tree_Tree_row_Row_Len_c hx3) rfl) rfl ?_;refine TL.on rfl rfl rfl rfl (eT c2) ?_;refine aA rfl rfl ?_;refine TL.op1 (OpR.pickT rfl (eT c2) rfl) rfl ?_;refine aA rfl rfl ?_;refine TL.nil ?_;obtain rfl:=osi ht1;exact⟨_,Gst.only [4] rfl,rfl⟩
noncomputable def tree_Node_row_Row_flat (a0:List NP) (a1:List row_Row) (a2:Int):Option Bool:=
 some ((a0.length:Int)==0)
theorem tree_Node_row_Row_flat_c {a0:List NP} {a1:List row_Row} {a2:Int} {res:Bool} (h0:tree_Node_row_Row_flat a0 a1 a2=some res):CallF X 152 [.nod [.sl 1 (List.map eNP a0),.sl 3 (List.map e_row_Row a1),dN a2]] [] (fun x=>(dT res)) (fun x=>[]):=by
 unfold tree_Node_row_Row_flat at h0;refine CallF.mkG (X:=X) rfl Tryz.func152 rfl rfl Tryz.ntmps152 rfl rfl ?_;refine aS ?_;refine aA rfl rfl ?_;refine aN rfl ?_;refine aS ?_;iterate 4 refine aA rfl rfl ?_
 refine TL.op1 (OpR.cast (OpR.pure rfl) (intE (lenM _ _))) rfl ?_;iterate 2 refine aA rfl rfl ?_
 refine aN rfl ?_;refine T.ret ?_;obtain rfl:=osi h0;exact rO [] [2] rfl undef (cT rfl ResL.nil) rfl rfl rfl rfl
noncomputable def tree_Node_row_Row_kid.l1 (a0:List NP) (s2:Int × Int):Option (Lp (Int × Int) (Int × Int)):=
 bnd (if s2.2<(w64 ((a0.length:Int)-1)) then
 bnd (idx a0 s2.2) fun x12=>
 bnd (o_tNd x12) fun x13=>
 some (decide (s2.1≥x13.fN))
else
 some false:Option Bool) fun t10=>
 if t10=true then
 bnd (idx a0 s2.2) fun x15=>
 bnd (o_tNd x15) fun x16=>
 some (Lp.next (w64 (s2.1-x16.fN),w64 (s2.2+1)))
else
 some (Lp.done (s2.1,s2.2))
noncomputable def tree_Node_row_Row_kid (a0:List NP) (a1:List row_Row) (a2:Int) (a3:Int):Option (Int × Int):=
 bnd (loop (tree_Node_row_Row_kid.l1 a0) (a3,0):Option (Int × Int)) fun t1=>
 some (t1.2,t1.1)
theorem tree_Node_row_Row_kid_c {a0:List NP} {a1:List row_Row} {a2:Int} {a3:Int} {res:Int × Int} (h0:tree_Node_row_Row_kid a0 a1 a2 a3=some res):CallF X 153 [.nod [.sl 1 (List.map eNP a0),.sl 3 (List.map e_row_Row a1),dN a2],dN a3] [] (fun x=>.tup [dN res.1,dN res.2]) (fun x=>[]):=by
 unfold tree_Node_row_Row_kid at h0;refine CallF.mkG (X:=X) rfl Tryz.func153 rfl rfl Tryz.ntmps153 rfl rfl ?_;refine aS ?_;iterate 2 refine aA rfl rfl ?_
 refine aN rfl ?_;refine aS ?_;refine aA rfl rfl ?_;refine aN rfl ?_;refine T.seq ?_;obtain⟨t1,ht1,h0⟩:=bS h0;refine T.cutC (fun S'=>S'=⟨[(6,(dN t1.2)),(5,(dN 0)),(4,(dN 0)),(1,(dN t1.1))],[],45⟩) (fun _ h=>h) ?_ ?_;rotate_left
 ·rintro _ rfl;show T X _ _ _;refine aS ?_;iterate 4 refine aA rfl rfl ?_
  refine aN rfl ?_;refine T.ret ?_;obtain rfl:=osi h0;exact rO [] [4,5] rfl undef (cT rfl (cT rfl ResL.nil)) rfl rfl rfl rfl
 refine T.block ?_;obtain⟨n3,n8⟩:=loop_some ht1;refine T.loop (fun n S'=>∃ S'',Gst S' S''∧∃ s2:Int × Int,S''=⟨[(6,(dN s2.2)),(5,(dN 0)),(4,(dN 0)),(1,(dN s2.1)),(0,.nod [.sl 1 (List.map eNP a0),.sl 3 (List.map e_row_Row a1),dN a2])],[],45⟩∧iter (tree_Node_row_Row_kid.l1 a0) n s2=some t1) n3 ?_ ?_
 ·exact⟨_,Gst.only [0,1,4,5,6] rfl,(a3,0),rfl,n8⟩
 rintro n3 _ ⟨_,g,s2,rfl,i7⟩;refine T.ghost g ?_;obtain⟨m4,q5,rfl,q6,i7⟩:=iter_succ i7;unfold tree_Node_row_Row_kid.l1 at q6;refine T.seq ?_;refine T.seq ?_;obtain⟨t10,ht10,q6⟩:=bS q6;refine T.cutC (fun S'=>S'=⟨[(28,(dT t10)),(6,(dN s2.2)),(5,(dN 0)),(4,(dN 0)),(1,(dN s2.1)),(0,.nod [.sl 1 (List.map eNP a0),.sl 3 (List.map e_row_Row a1),dN a2])],[],45⟩) (fun _ h=>h) ?_ ?_;rotate_left
 ·rintro _ rfl;show T X _ _ _;rcases ite_some q6 with ⟨c14,q6⟩|⟨c14,q6⟩;rotate_left
  ·refine T.condF rfl (eq_false_of_ne_true c14) ?_;refine T.exit ?_;obtain rfl:=osi q6;obtain rfl:_=_:=i7;exact⟨_,Gst.only [1,4,5,6] rfl,rfl⟩
  refine T.condT rfl (c14) ?_;refine aK rfl ?_;refine T.block ?_;refine aS ?_;iterate 6 refine aA rfl rfl ?_
  obtain⟨x15,hx15,q6⟩:=bS q6;obtain⟨x16,hx16,q6⟩:=bS q6;rw[o_tNd_eq hx16] at hx15;refine TL.op1 (OpR.indexM eNP hx15 rfl rfl rfl rfl rfl) rfl ?_;iterate 6 refine aA rfl rfl ?_
  refine aN rfl ?_;refine T.region ?_;iterate 3 refine aA rfl rfl ?_
  refine TL.nil ?_;obtain rfl:=osi q6;exact⟨m4,Nat.lt_succ_self _,_,Gst.only [0,1,4,5,6] rfl,(w64 (s2.1-x16.fN),w64 (s2.2+1)),rfl,i7⟩
 refine T.region ?_;iterate 5 refine aA rfl rfl ?_
 refine TL.op1 (OpR.cast (OpR.pure rfl) (intE (lenM _ _))) rfl ?_;iterate 3 refine aA rfl rfl ?_
 rcases ite_some ht10 with ⟨c11,ht10⟩|⟨c11,ht10⟩;rotate_left
 ·refine TL.off rfl rfl rfl rfl (eF c11) rfl rfl ?_;refine TL.off rfl rfl rfl rfl (eF c11) rfl rfl ?_;refine TL.off rfl rfl rfl rfl (eF c11) rfl rfl ?_;refine TL.off rfl rfl rfl rfl (eF c11) rfl rfl ?_;refine TL.off rfl rfl rfl rfl (eF c11) rfl rfl ?_;refine TL.off rfl rfl rfl rfl (eF c11) rfl rfl ?_;refine TL.off rfl rfl rfl rfl (eF c11) rfl rfl ?_;refine TL.off rfl rfl rfl rfl (eF c11) rfl rfl ?_;refine TL.off rfl rfl rfl rfl (eF c11) rfl rfl ?_;refine TL.off rfl rfl rfl rfl (eF c11) rfl rfl ?_;refine TL.off rfl rfl rfl rfl (eF c11) rfl rfl ?_;refine TL.off rfl rfl rfl rfl (eF c11) rfl rfl ?_;refine TL.op1 (OpR.pickF rfl (eF c11) rfl) rfl ?_;refine TL.nil ?_;obtain rfl:=osi ht10;exact⟨_,Gst.only [0,1,4,5,6,28] rfl,rfl⟩
 refine TL.on rfl rfl rfl rfl (eT c11) ?_;refine aA rfl rfl ?_;refine TL.on rfl rfl rfl rfl (eT c11) ?_;refine aA rfl rfl ?_;refine TL.on rfl rfl rfl rfl (eT c11) ?_;refine aA rfl rfl ?_;refine TL.on rfl rfl rfl rfl (eT c11) ?_;refine aA rfl rfl ?_;refine TL.on rfl rfl rfl rfl (eT c11) ?_;refine aA rfl rfl ?_;refine TL.on rfl rfl rfl rfl (eT c11) ?_;refine aA rfl rfl ?_;refine TL.on rfl rfl rfl rfl (eT c11) ?_;obtain⟨x12,hx12,ht10⟩:=bS ht10;obtain⟨x13,hx13,ht10⟩:=bS ht10;rw[o_tNd_eq hx13] at hx12;refine TL.op1 (OpR.indexM eNP hx12 rfl rfl rfl rfl rfl) rfl ?_;refine TL.on rfl rfl rfl rfl (eT c11) ?_;refine aA rfl rfl ?_;refine TL.on rfl rfl rfl rfl (eT c11) ?_;refine aA rfl rfl ?_;refine TL.on rfl rfl rfl rfl (eT c11) ?_;refine aA rfl rfl ?_;refine TL.on rfl rfl rfl rfl (eT c11) ?_;refine aA rfl rfl ?_;refine TL.on rfl rfl rfl rfl (eT c11) ?_;refine aA rfl rfl ?_;refine TL.op1 (OpR.pickT rfl (eT c11) rfl) rfl ?_;refine TL.nil ?_;obtain rfl:=osi ht10;exact⟨_,Gst.only [0,1,4,5,6,28] rfl,rfl⟩
noncomputable def tree_Tree_row_Row_At.l1 (s7:Unit):Option (Lp Unit (row_Row × Bool)):=
 none
noncomputable def tree_Tree_row_Row_At.l2 (s17:Int × (List NP) × (List row_Row) × Int):Option (Lp (Int × (List NP) × (List row_Row) × Int) (Int × (List NP) × (List row_Row) × Int)):=
 bnd (tree_Node_row_Row_flat s17.2.1 s17.2.2.1 s17.2.2.2) fun x25=>
 if x25=true then
 some (Lp.done (s17.1,s17.2.1,s17.2.2.1,s17.2.2.2))
else
 bnd (tree_Node_row_Row_kid s17.2.1 s17.2.2.1 s17.2.2.2 s17.1) fun x27=>
 bnd (idx s17.2.1 x27.1) fun x28=>
 bnd (o_tNd x28) fun x29=>
 some (Lp.next (x27.2,x29.fKids,x29.fItems,x29.fN))
noncomputable def tree_Tree_row_Row_At (a0:tTr) (a1:Int):Option (row_Row × Bool):=
 bnd (tree_Tree_row_Row_has a0 a1) fun x2=>
 if x2=true then
 bnd (some a0.fRoot) fun q4=>match q4 with
| none=>
 loop tree_Tree_row_Row_At.l1 ()
| some z5=>
 bnd (o_tNd z5) fun x15=>
 bnd (loop tree_Tree_row_Row_At.l2 (a1,x15.fKids,x15.fItems,x15.fN):Option (Int × (List NP) × (List row_Row) × Int)) fun t16=>
 bnd (idx t16.2.2.1 t16.1) fun x30=>
 some (x30,true)
else
 some ((⟨[],0,false⟩:row_Row),false)
theorem tree_Tree_row_Row_At_c {a0:tTr} {a1:Int} {res:row_Row × Bool} (h0:tree_Tree_row_Row_At a0 a1=some res):CallF X 81 [.agg [(eOP a0.fRoot)],dN a1] [] (fun x=>.tup [.agg [.sl 5 (List.map e_cell_Cell res.1.fCells),dN res.1.fEnd,dT res.1.fHidden],dT res.2]) (fun x=>[]):=by
 unfold tree_Tree_row_Row_At at h0;refine CallF.mkG (X:=X) rfl Tryz.func81 rfl rfl Tryz.ntmps81 rfl rfl ?_;refine aS ?_;refine TL.op1 (OpR.boxImm rfl rfl) rfl ?_;refine TL.op (OpR.alloc rfl rfl (fun _=>rfl)) rfl (fun p1=>?_);refine aA rfl rfl ?_;refine aN rfl ?_;refine T.seq ?_;refine aS ?_;iterate 2 refine aA rfl rfl ?_
 obtain⟨x2,hx2,h0⟩:=bS h0;refine TL.op1 (OpR.call0 fn151 (tree_Tree_row_Row_has_c hx2) rfl) rfl ?_;refine aA rfl rfl ?_;refine aN rfl ?_;rcases ite_some h0 with ⟨c3,h0⟩|⟨c3,h0⟩;rotate_left
 ·refine T.condT rfl (not_f (eq_false_of_ne_true c3)) ?_;refine aS ?_;refine TL.op (OpR.alloc rfl rfl (fun _=>rfl)) rfl (fun p31=>?_);refine aN rfl ?_;refine aS ?_;refine TL.op1 (OpR.loadPtr 1 rfl rfl rfl rfl) rfl ?_;refine TL.op0 (OpR.store 0 rfl rfl rfl rfl rfl rfl rfl rfl) ?_;refine aA rfl rfl ?_;refine aN rfl ?_;refine T.ret ?_;obtain rfl:=osi h0;exact PostG.retP (ks:=[]) (Gst.trans (Gst.only [4,5] rfl) (Gst.trans (Gst.denil (ReS.cons Re.refl (ReS.cons Re.refl ReS.nil)) (ReO.var (ReL.cons (Re.base .nil) (ReL.cons Re.refl (ReL.cons Re.refl ReL.nil))) (ReO.same ReO.nil))) (Gst.pick [0] rfl rfl))) undef (cV 0 rfl rfl rfl rfl (cT rfl ResL.nil)) rfl rfl rfl rfl
 refine T.condF rfl (not_t (c3)) ?_;refine aK rfl ?_;refine aS ?_;refine aA rfl rfl ?_;obtain⟨q4,hq4,h0⟩:=bS h0;rcases q4 with _|z5
 ·dsimp only at h0;refine TL.op1 (OpR.cast (OpR.pure rfl) (congrArg eOP (osi hq4))) rfl ?_;refine aA rfl rfl ?_;refine aN rfl ?_;refine T.seq ?_;refine T.block ?_;obtain⟨n8,n13⟩:=loop_some h0;refine T.loop (fun n S'=>∃ S'',Gst S' S''∧∃ s7:Unit,S''=⟨[(7,dQ),(5,(dT false)),(4,(dP (blk p1))),(1,(dN a1))],[.var (blk p1) [.val (.slice none 0 0),dN 0,dT false] 49],41⟩∧iter tree_Tree_row_Row_At.l1 n s7=some res) n8 ?_ ?_
  ·exact⟨_,Gst.only [1,4,5,7] rfl,(),rfl,n13⟩
  rintro n8 _ ⟨_,g,s7,rfl,i12⟩;refine T.ghost g ?_;obtain⟨m9,q10,rfl,q11,i12⟩:=iter_succ i12;unfold tree_Tree_row_Row_At.l1 at q11;refine T.seq ?_;refine aS ?_;refine aA rfl rfl ?_;exact (by cases q11)
 dsimp only at h0;obtain⟨x15,hx15,h0⟩:=bS h0;rw[o_tNd_eq hx15] at hq4;refine TL.op1 (OpR.cast (OpR.pure rfl) (congrArg eOP (osi hq4))) rfl ?_;refine aA rfl rfl ?_;refine aN rfl ?_;refine T.seq ?_;obtain⟨t16,ht16,h0⟩:=bS h0;refine T.cutC (fun S'=>S'=⟨[(7,.nod [.sl 1 (List.map eNP t16.2.1),.sl 3 (List.map e_row_Row t16.2.2.1),dN t16.2.2.2]),(5,(dT false)),(4,(dP (blk p1))),(1,(dN t16.1))],[.var (blk p1) [.val (.slice none 0 0),dN 0,dT false] 49],41⟩) (fun _ h=>h) ?_ ?_;rotate_left
 ·rintro _ rfl;show T X _ _ _;refine aS ?_;iterate 5 refine aA rfl rfl ?_
  obtain⟨x30,hx30,h0⟩:=bS h0;refine TL.op1 (OpR.indexM e_row_Row hx30 rfl rfl rfl rfl rfl) rfl ?_;refine aA rfl rfl ?_;refine TL.op0 (OpR.store 0 rfl rfl rfl rfl rfl rfl rfl rfl) ?_;refine aA rfl rfl ?_;refine aN rfl ?_;refine T.ret ?_;obtain rfl:=osi h0;exact rO [] [4,5] rfl undef (cV 0 rfl rfl rfl rfl (cT rfl ResL.nil)) rfl rfl rfl rfl
 refine T.block ?_;obtain⟨n18,n23⟩:=loop_some ht16;refine T.loop (fun n S'=>∃ S'',Gst S' S''∧∃ s17:Int × (List NP) × (List row_Row) × Int,S''=⟨[(7,.nod [.sl 1 (List.map eNP s17.2.1),.sl 3 (List.map e_row_Row s17.2.2.1),dN s17.2.2.2]),(5,(dT false)),(4,(dP (blk p1))),(1,(dN s17.1))],[.var (blk p1) [.val (.slice none 0 0),dN 0,dT false] 49],41⟩∧iter tree_Tree_row_Row_At.l2 n s17=some t16) n18 ?_ ?_
 ·exact⟨_,Gst.only [1,4,5,7] rfl,(a1,x15.fKids,x15.fItems,x15.fN),rfl,n23⟩
 rintro n18 _ ⟨_,g,s17,rfl,i22⟩;refine T.ghost g ?_;obtain⟨m19,q20,rfl,q21,i22⟩:=iter_succ i22;unfold tree_Tree_row_Row_At.l2 at q21;refine T.seq ?_;refine aS ?_;refine aA rfl rfl ?_;obtain⟨x25,hx25,q21⟩:=bS q21;refine TL.op1 (OpR.call0 fn152 (tree_Node_row_Row_flat_c hx25) rfl) rfl ?_;refine aA rfl rfl ?_;refine aN rfl ?_;rcases ite_some q21 with ⟨c26,q21⟩|⟨c26,q21⟩
 ·refine T.condF rfl (not_t (c26)) ?_;refine T.exit ?_;obtain rfl:=osi q21;obtain rfl:_=_:=i22;exact⟨_,Gst.only [1,4,5,7] rfl,rfl⟩
 refine T.condT rfl (not_f (eq_false_of_ne_true c26)) ?_;refine aK rfl ?_;refine T.block ?_;refine aS ?_;iterate 2 refine aA rfl rfl ?_
 obtain⟨x27,hx27,q21⟩:=bS q21;refine TL.op1 (OpR.call0 fn153 (tree_Node_row_Row_kid_c hx27) rfl) rfl ?_;iterate 5 refine aA rfl rfl ?_
 refine aN rfl ?_;refine T.region ?_;iterate 5 refine aA rfl rfl ?_
 obtain⟨x28,hx28,q21⟩:=bS q21;obtain⟨x29,hx29,q21⟩:=bS q21;rw[o_tNd_eq hx29] at hx28;refine TL.op1 (OpR.indexM eNP hx28 rfl rfl rfl rfl rfl) rfl ?_;iterate 4 refine aA rfl rfl ?_
 refine TL.nil ?_;obtain rfl:=osi q21;exact⟨m19,Nat.lt_succ_self _,_,Gst.only [1,4,5,7] rfl,(x27.2,x29.fKids,x29.fItems,x29.fN),rfl,i22⟩
noncomputable def grid_Grid_Row (a0:grid_Grid) (a1:Int):Option (row_Row × Bool):=
 bnd (tree_Tree_row_Row_At a0.fRows a1) fun x2=>
 some (x2.1,x2.2)
theorem grid_Grid_Row_c {a0:grid_Grid} {a1:Int} {res:row_Row × Bool} (h0:grid_Grid_Row a0 a1=some res):CallF X 24 [.agg [(eOP a0.fRows.fRoot),dT a0.fTail,dN a0.fEnd],dN a1] [] (fun x=>.tup [.agg [.sl 5 (List.map e_cell_Cell res.1.fCells),dN res.1.fEnd,dT res.1.fHidden],dT res.2]) (fun x=>[]):=by
 unfold grid_Grid_Row at h0;refine CallF.mkG (X:=X) rfl Tryz.func24 rfl rfl Tryz.ntmps24 rfl rfl ?_;refine aS ?_;refine TL.op1 (OpR.boxImm rfl rfl) rfl ?_;refine TL.op (OpR.alloc rfl rfl (fun _=>rfl)) rfl (fun p1=>?_);refine aA rfl rfl ?_;refine aN rfl ?_;refine aS ?_;iterate 3 refine aA rfl rfl ?_
 obtain⟨x2,hx2,h0⟩:=bS h0;refine TL.op1 (OpR.call0 fn81 (tree_Tree_row_Row_At_c hx2) rfl) rfl ?_;iterate 2 refine aA rfl rfl ?_
 refine TL.op0 (OpR.store 0 rfl rfl rfl rfl rfl rfl rfl rfl) ?_;refine aA rfl rfl ?_;refine aN rfl ?_;refine T.ret ?_;obtain rfl:=osi h0;exact rO [] [4,5] rfl undef (cV 0 rfl rfl rfl rfl (cT rfl ResL.nil)) rfl rfl rfl rfl
noncomputable def slices_Clone_cell_Cell_cell_Cell (a0:List cell_Cell):Option (List cell_Cell):=
 bnd (app 56 [] a0) fun x5=>
 some x5
theorem slices_Clone_cell_Cell_cell_Cell_c {a0:List cell_Cell} {res:(List cell_Cell)} (h0:slices_Clone_cell_Cell_cell_Cell a0=some res):CallF X 163 [.sl 5 (List.map e_cell_Cell a0)] [] (fun x=>.val (vn x 0)) (fun x=>[.row (vn x 0) (List.map e_cell_Cell res) 5 144]):=by
 unfold slices_Clone_cell_Cell_cell_Cell at h0;refine CallF.mkG (X:=X) rfl Tryz.func163 rfl rfl Tryz.ntmps163 rfl rfl ?_;refine aS ?_;refine aA rfl rfl ?_;refine aN rfl ?_;refine T.seq ?_;refine aS ?_;refine aA rfl rfl ?_;refine TL.isNil rfl rfl rfl rfl (fun b1 e2=>?_);refine aN rfl ?_;rcases Bool.eq_false_or_eq_true b1 with c3|c3
 ·obtain rfl:=map_nil_of (e2 c3);rw[app_nil] at h0;refine T.condT rfl (c3) ?_;refine aS ?_;refine aA rfl rfl ?_;refine aN rfl ?_;refine T.ret ?_;obtain rfl:=osi h0;exact PostG.retP (ks:=[0]) (Gst.trans (Gst.only [2] rfl) (Gst.nilRow (ow:=[]) 5 144 rfl)) (.tuple #[(.slice none 0 0)]) (cT rfl ResL.nil) rfl rfl rfl rfl
 refine T.condF rfl (c3) ?_;refine aK rfl ?_;refine aS ?_;refine TL.op (OpR.litRow rfl rfl rfl rfl rfl rfl rfl rfl (fun _=>rfl)) rfl (fun v4=>?_);refine aA rfl rfl ?_;obtain⟨x5,hx5,h0⟩:=bS h0;refine TL.op (OpR.appendM (m:=a0) e_cell_Cell 0 hx5 rfl rfl rfl rfl rfl rfl rfl rfl rfl (fun _=>rfl)) rfl (fun v6=>?_);refine aA rfl rfl ?_;refine aN rfl ?_;refine T.ret ?_;obtain rfl:=osi h0;exact rO [0] [2] rfl (.tuple #[v6]) (cT rfl ResL.nil) rfl rfl rfl rfl
noncomputable def row_Row_Hide (a0:row_Row) (a1:Bool):Option row_Row:=
 bnd (slices_Clone_cell_Cell_cell_Cell a0.fCells) fun x3=>
 some (⟨x3,a0.fEnd,a1⟩:row_Row)
theorem row_Row_Hide_c {a0:row_Row} {a1:Bool} {res:row_Row} (h0:row_Row_Hide a0 a1=some res):CallF X 121 [.agg [.sl 5 (List.map e_cell_Cell a0.fCells),dN a0.fEnd,dT a0.fHidden],dT a1] [] (fun x=>.agg [.sl 5 (List.map e_cell_Cell res.fCells),dN res.fEnd,dT res.fHidden]) (fun x=>[]):=by
 unfold row_Row_Hide at h0;refine CallF.mkG (X:=X) rfl Tryz.func121 rfl rfl Tryz.ntmps121 rfl rfl ?_;refine aS ?_;refine TL.op (OpR.boxVar rfl rfl (fun _=>rfl)) rfl (fun p1=>?_);refine TL.op (OpR.alloc rfl rfl (fun _=>rfl)) rfl (fun p2=>?_);refine aN rfl ?_;refine aS ?_;refine aA rfl rfl ?_;refine TL.op1 (OpR.loadPtr 0 rfl rfl rfl rfl) rfl ?_;obtain⟨x3,hx3,h0⟩:=bS h0;refine TL.op (OpR.call [] fn163 (slices_Clone_cell_Cell_cell_Cell_c hx3) rfl rfl rfl (fun _=>rfl)) rfl (fun w4=>?_);refine aA rfl rfl ?_;refine TL.op0 (OpR.store 0 rfl rfl rfl rfl rfl rfl rfl rfl) ?_;refine aN rfl ?_;refine aS ?_;iterate 2 refine aA rfl rfl ?_
 refine TL.op0 (OpR.store 0 rfl rfl rfl rfl rfl rfl rfl rfl) ?_;refine aN rfl ?_;refine aS ?_;refine TL.op1 (OpR.loadPtr 0 rfl rfl rfl rfl) rfl ?_;refine TL.op0 (OpR.store 1 rfl rfl rfl rfl rfl rfl rfl rfl) ?_;refine aN rfl ?_;refine T.ret ?_;obtain rfl:=osi h0;exact PostG.retP (ks:=[]) (Gst.trans (Gst.only [4] rfl) (Gst.trans (Gst.freezeRow 2 rfl rfl (ReS.cons Re.refl ReS.nil) (ReO.var (ReL.cons (Re.base .all) (ReL.cons Re.refl (ReL.cons Re.refl ReL.nil))) (ReO.var (ReL.cons (Re.base .all) (ReL.cons Re.refl (ReL.cons Re.refl ReL.nil))) (ReO.same ReO.nil)))) (Gst.pick [1] rfl rfl))) undef (cV 0 rfl rfl rfl rfl ResL.nil) rfl rfl rfl rfl
noncomputable def slices_Grow_row_Row_row_Row (a0:Int):Option (List row_Row):=
 if a0<0 then
 none
else
 bnd (if (w64 (a0-0))>0 then
 bnd (mkg 40 (w64 (a0-0))) fun x5=>
 some []
else
 some []:Option (List row_Row)) fun t2=>
 some t2
theorem slices_Grow_row_Row_row_Row_c {a0:Int} {res:(List row_Row)} (h0:slices_Grow_row_Row_row_Row a0=some res):CallF X 274 [.val (.slice none 0 0),dN a0] [] (fun x=>.val (vn x 0)) (fun x=>[.row (vn x 0) (List.map e_row_Row res) 3 49]):=by
 unfold slices_Grow_row_Row_row_Row at h0;refine CallF.mkG (X:=X) rfl Tryz.func274 rfl rfl Tryz.ntmps274 rfl rfl ?_;refine aS ?_;refine aA rfl rfl ?_;refine aN rfl ?_;refine T.seq ?_;refine aS ?_;iterate 2 refine aA rfl rfl ?_
 refine aN rfl ?_;rcases ite_some h0 with ⟨c1,h0⟩|⟨c1,h0⟩
 ·refine T.condT rfl (eT c1) ?_;cases h0
 refine T.condF rfl (eF c1) ?_;refine aK rfl ?_;refine T.seq ?_;refine aS ?_;iterate 2 refine aA rfl rfl ?_
 refine TL.op1 (OpR.capNil rfl rfl rfl) rfl ?_;iterate 2 refine aA rfl rfl ?_
 refine TL.op1 (OpR.cast (OpR.pure rfl) (intE (show w64 (0-0)=0 by decide))) rfl ?_;iterate 2 refine aA rfl rfl ?_
 refine aN rfl ?_;refine aS ?_;iterate 2 refine aA rfl rfl ?_
 refine aN rfl ?_;obtain⟨t2,ht2,h0⟩:=bS h0;refine T.cutC (fun S'=>∃ y3:Value,S'=⟨[(4,.val (.slice none 0 0)),(0,.val y3)],[.row y3 (List.map e_row_Row t2) 3 49],27⟩) (fun _ h=>h) ?_ ?_;rotate_left
 ·rintro _ ⟨y3,rfl⟩;show T X _ _ _;refine aS ?_;iterate 2 refine aA rfl rfl ?_
  refine aN rfl ?_;refine T.ret ?_;obtain rfl:=osi h0;exact rO [0] [4] rfl (.tuple #[y3]) (cT rfl ResL.nil) rfl rfl rfl rfl
 rcases ite_some ht2 with ⟨c4,ht2⟩|⟨c4,ht2⟩;rotate_left
 ·refine T.condF rfl (eF c4) ?_;refine T.skip ?_;obtain rfl:=osi ht2;exact⟨_,Gst.trans (Gst.only [0,4] rfl) (Gst.nilRow (ow:=[]) 3 49 rfl),(.slice none 0 0),rfl⟩
 refine T.condT rfl (eT c4) ?_;refine T.region ?_;iterate 2 refine aA rfl rfl ?_
 refine TL.op1 (OpR.capNil rfl rfl rfl) rfl ?_;refine TL.op1 (OpR.sliceNil rfl rfl rfl rfl rfl) rfl ?_;refine aA rfl rfl ?_;obtain⟨x5,hx5,ht2⟩:=bS ht2;refine TL.op (OpR.appendZ hx5 rfl rfl rfl rfl rfl rfl rfl rfl rfl rfl (fun _=>rfl)) rfl (fun v6=>?_);iterate 2 refine aA rfl rfl ?_
 refine TL.op1 (OpR.slice0 0 rfl rfl rfl rfl rfl rfl) rfl ?_;refine aA rfl rfl ?_;refine TL.nil ?_;obtain rfl:=osi ht2;exact⟨_,Gst.only [0,4] rfl,(cut0 v6),rfl⟩
noncomputable def slices_Concat_row_Row_row_Row.l1 (a0:List (List row_Row)) (s2:Int × Int):Option (Lp (Int × Int) Int):=
 if s2.2<(a0.length:Int) then
 bnd (idx a0 s2.2) fun x11=>
 if (w64 (s2.1+(x11.length:Int)))<0 then
 none
else
 some (Lp.next (w64 (s2.1+(x11.length:Int)),w64 (s2.2+1)))
else
 some (Lp.done s2.1)
noncomputable def slices_Concat_row_Row_row_Row.l2 (a0:List (List row_Row)) (s18:Int × (List row_Row)):Option (Lp (Int × (List row_Row)) (List row_Row)):=
 if s18.1<(a0.length:Int) then
 bnd (idx a0 s18.1) fun x27=>
 bnd (app 40 s18.2 x27) fun x28=>
 some (Lp.next (w64 (s18.1+1),x28))
else
 some (Lp.done s18.2)
noncomputable def slices_Concat_row_Row_row_Row (a0:List (List row_Row)):Option (List row_Row):=
 bnd (loop (slices_Concat_row_Row_row_Row.l1 a0) (0,0):Option Int) fun t1=>
 bnd (slices_Grow_row_Row_row_Row t1) fun x13=>
 bnd (loop (slices_Concat_row_Row_row_Row.l2 a0) (0,x13):Option (List row_Row)) fun t15=>
 some t15
theorem slices_Concat_row_Row_row_Row_c {a0:List (List row_Row)} {res:(List row_Row)} (h0:slices_Concat_row_Row_row_Row a0=some res):CallF X 266 [.sl 1 (List.map e_sl163 a0)] [] (fun x=>.sl 3 (List.map e_row_Row res)) (fun x=>[]):=by
 unfold slices_Concat_row_Row_row_Row at h0;refine CallF.mkG (X:=X) rfl Tryz.func266 rfl rfl Tryz.ntmps266 rfl rfl ?_;refine aS ?_;refine aA rfl rfl ?_;refine aN rfl ?_;refine aS ?_;refine aA rfl rfl ?_;refine aN rfl ?_;refine T.seq ?_;refine aS ?_;refine aA rfl rfl ?_;refine TL.op1 (OpR.cast (OpR.pure rfl) (intE (lenM _ _))) rfl ?_;refine aA rfl rfl ?_;refine aN rfl ?_;obtain⟨t1,ht1,h0⟩:=bS h0;refine T.cutC (fun S'=>S'=⟨[(3,(dN t1)),(2,.val (.slice none 0 0)),(0,.sl 1 (List.map e_sl163 a0))],[],36⟩) (fun _ h=>h) ?_ ?_
 ·refine T.block ?_;obtain⟨n3,n8⟩:=loop_some ht1;refine T.loop (fun n S'=>∃ S'',Gst S' S''∧∃ s2:Int × Int,S''=⟨[(11,(dN s2.2)),(10,(dN (a0.length:Int))),(9,.sl 1 (List.map e_sl163 a0)),(3,(dN s2.1)),(2,.val (.slice none 0 0)),(0,.sl 1 (List.map e_sl163 a0))],[],36⟩∧iter (slices_Concat_row_Row_row_Row.l1 a0) n s2=some t1) n3 ?_ ?_
  ·exact⟨_,Gst.only [0,2,3,9,10,11] rfl,(0,0),rfl,n8⟩
  rintro n3 _ ⟨_,g,s2,rfl,i7⟩;refine T.ghost g ?_;obtain⟨m4,q5,rfl,q6,i7⟩:=iter_succ i7;unfold slices_Concat_row_Row_row_Row.l1 at q6;refine aS ?_;refine aA rfl rfl ?_;refine aN rfl ?_;refine T.seq ?_;rcases ite_some q6 with ⟨c10,q6⟩|⟨c10,q6⟩;rotate_left
  ·refine T.condF rfl (eF c10) ?_;refine T.exit ?_;obtain rfl:=osi q6;obtain rfl:_=_:=i7;exact⟨_,Gst.only [0,2,3] rfl,rfl⟩
  refine T.condT rfl (eT c10) ?_;refine aK rfl ?_;refine T.seq ?_;refine T.block ?_;refine aS ?_;obtain⟨x11,hx11,q6⟩:=bS q6;refine TL.op1 (OpR.indexM e_sl163 hx11 rfl rfl rfl rfl rfl) rfl ?_;iterate 2 refine aA rfl rfl ?_
  refine aN rfl ?_;refine aS ?_;iterate 2 refine aA rfl rfl ?_
  refine TL.op1 (OpR.cast (OpR.pure rfl) (intE (lenM _ _))) rfl ?_;iterate 2 refine aA rfl rfl ?_
  refine aN rfl ?_;refine aS ?_;iterate 2 refine aA rfl rfl ?_
  refine aN rfl ?_;rcases ite_some q6 with ⟨c12,q6⟩|⟨c12,q6⟩
  ·refine T.condT rfl (eT c12) ?_;cases q6
  refine T.condF rfl (eF c12) ?_;refine aK rfl ?_;refine T.region ?_;iterate 2 refine aA rfl rfl ?_
  refine TL.nil ?_;obtain rfl:=osi q6;exact⟨m4,Nat.lt_succ_self _,_,Gst.only [0,2,3,9,10,11] rfl,(w64 (s2.1+(x11.length:Int)),w64 (s2.2+1)),rfl,i7⟩
 rintro _ rfl;show T X _ _ _;refine aS ?_;refine aA rfl rfl ?_;obtain⟨x13,hx13,h0⟩:=bS h0;refine TL.op (OpR.call [] fn274 (slices_Grow_row_Row_row_Row_c hx13) rfl rfl rfl (fun _=>rfl)) rfl (fun w14=>?_);refine aA rfl rfl ?_;refine aN rfl ?_;refine T.seq ?_;refine aS ?_;refine aA rfl rfl ?_;refine TL.op1 (OpR.cast (OpR.pure rfl) (intE (lenM _ _))) rfl ?_;refine aA rfl rfl ?_;refine aN rfl ?_;obtain⟨t15,ht15,h0⟩:=bS h0;refine T.cutC (fun S'=>∃ y16:Value,S'=⟨[(6,.val y16),(2,.val (.slice none 0 0))],[.row y16 (List.map e_row_Row t15) 3 49],36⟩) (fun _ h=>h) ?_ ?_;rotate_left
 ·rintro _ ⟨y16,rfl⟩;show T X _ _ _;refine aS ?_;iterate 2 refine aA rfl rfl ?_
  refine aN rfl ?_;refine T.ret ?_;obtain rfl:=osi h0;exact PostG.retP (ks:=[]) (Gst.trans (Gst.only [2] rfl) (Gst.trans (Gst.freezeRow 0 rfl rfl (ReS.cons (Re.base .all) ReS.nil) (ReO.same ReO.nil)) (Gst.pick [] rfl rfl))) undef (cT rfl ResL.nil) rfl rfl rfl rfl
 refine T.block ?_;obtain⟨n19,n24⟩:=loop_some ht15;refine T.loop (fun n S'=>∃ S'',Gst S' S''∧∃ y17:Value,∃ s18:Int × (List row_Row),S''=⟨[(27,(dN s18.1)),(26,(dN (a0.length:Int))),(25,.sl 1 (List.map e_sl163 a0)),(6,.val y17),(2,.val (.slice none 0 0))],[.row y17 (List.map e_row_Row s18.2) 3 49],36⟩∧iter (slices_Concat_row_Row_row_Row.l2 a0) n s18=some t15) n19 ?_ ?_
 ·exact⟨_,Gst.only [2,6,25,26,27] rfl,(vn w14 0),(0,x13),rfl,n24⟩
 rintro n19 _ ⟨_,g,y17,s18,rfl,i23⟩;refine T.ghost g ?_;obtain⟨m20,q21,rfl,q22,i23⟩:=iter_succ i23;unfold slices_Concat_row_Row_row_Row.l2 at q22;refine aS ?_;refine aA rfl rfl ?_;refine aN rfl ?_;refine T.seq ?_;rcases ite_some q22 with ⟨c26,q22⟩|⟨c26,q22⟩;rotate_left
 ·refine T.condF rfl (eF c26) ?_;refine T.exit ?_;obtain rfl:=osi q22;obtain rfl:_=_:=i23;exact⟨_,Gst.only [2,6] rfl,y17,rfl⟩
 refine T.condT rfl (eT c26) ?_;refine aK rfl ?_;refine T.seq ?_;refine T.block ?_;refine aS ?_;obtain⟨x27,hx27,q22⟩:=bS q22;refine TL.op1 (OpR.indexM e_sl163 hx27 rfl rfl rfl rfl rfl) rfl ?_;iterate 2 refine aA rfl rfl ?_
 refine aN rfl ?_;refine T.region ?_;iterate 2 refine aA rfl rfl ?_
 obtain⟨x28,hx28,q22⟩:=bS q22;refine TL.op (OpR.appendM (m:=x27) e_row_Row 0 hx28 rfl rfl rfl rfl rfl rfl rfl rfl rfl (fun _=>rfl)) rfl (fun v29=>?_);refine aA rfl rfl ?_;refine aN rfl ?_;refine T.region ?_;iterate 2 refine aA rfl rfl ?_
 refine TL.nil ?_;obtain rfl:=osi q22;exact⟨m20,Nat.lt_succ_self _,_,Gst.only [2,6,25,26,27] rfl,v29,(w64 (s18.1+1),x28),rfl,i23⟩
noncomputable def tree_splice_row_Row (a0:List row_Row) (a1:Int) (a2:Int) (a3:List row_Row):Option (List row_Row):=
 bnd (cut a0 0 a1) fun x2=>
 bnd (cut a0 a2 (a0.length:Int)) fun x3=>
 bnd (slices_Concat_row_Row_row_Row [x2,a3,x3]) fun x4=>
 some x4
theorem tree_splice_row_Row_c {a0:List row_Row} {a1:Int} {a2:Int} {a3:List row_Row} {res:(List row_Row)} (h0:tree_splice_row_Row a0 a1 a2 a3=some res):CallF X 247 [.sl 3 (List.map e_row_Row a0),dN a1,dN a2,.sl 3 (List.map e_row_Row a3)] [] (fun x=>.sl 3 (List.map e_row_Row res)) (fun x=>[]):=by
 unfold tree_splice_row_Row at h0;refine CallF.mkG (X:=X) rfl Tryz.func247 rfl rfl Tryz.ntmps247 rfl rfl ?_;refine aS ?_;refine aA rfl rfl ?_;refine aN rfl ?_;refine T.seq ?_;obtain⟨x2,hx2,h0⟩:=bS h0;obtain⟨x3,hx3,h0⟩:=bS h0;obtain⟨x4,hx4,h0⟩:=bS h0;refine T.drawQ drawsX [.sl 3 (List.map e_row_Row a0),dN a1,.sl 3 (List.map e_row_Row x2),.sl 3 (List.map e_row_Row a3),.sl 3 (List.map e_row_Row a0),dN a2,.sl 3 (List.map e_row_Row x3),.sl 1 (List.map e_sl163 [x2,a3,x3]),.sl 3 (List.map e_row_Row x4),.sl 3 (List.map e_row_Row x4)] [8] (by decide +kernel) rfl ?_ rfl ?_;rotate_left
 ·show T X _ _ _;refine T.ret ?_;obtain rfl:=osi h0;exact rO [] [8] rfl undef (cT rfl ResL.nil) rfl rfl rfl rfl
 iterate 2 refine aB rfl rfl rfl ?_
 refine OpsQ.yes (Want.plain rfl) rfl (OpR.sliceM (sz:=3) e_row_Row hx2 rfl rfl rfl rfl BdM.none (BdM.some rfl) rfl) ?_;iterate 3 refine aB rfl rfl rfl ?_
 refine OpsQ.yes (Want.plain rfl) rfl (OpR.sliceM (sz:=3) e_row_Row hx3 rfl rfl rfl rfl (BdM.some rfl) BdM.none rfl) ?_;refine OpsQ.yes (Want.plain rfl) rfl (OpR.lit rfl rfl rfl rfl rfl rfl rfl) ?_;refine OpsQ.yes (Want.plain rfl) rfl (OpR.call0 fn266 (slices_Concat_row_Row_row_Row_c hx4) rfl) ?_;refine aB rfl rfl rfl ?_;exact OpsQ.nil
noncomputable def slices_Grow_tree_Node_row_Row_tree_Node_row_Row (a0:Int):Option (List NP):=
 if a0<0 then
 none
else
 bnd (if (w64 (a0-0))>0 then
 bnd (mkg 8 (w64 (a0-0))) fun x5=>
 some []
else
 some []:Option (List NP)) fun t2=>
 some t2
theorem slices_Grow_tree_Node_row_Row_tree_Node_row_Row_c {a0:Int} {res:(List NP)} (h0:slices_Grow_tree_Node_row_Row_tree_Node_row_Row a0=some res):CallF X 275 [.val (.slice none 0 0),dN a0] [] (fun x=>.val (vn x 0)) (fun x=>[.row (vn x 0) (List.map eNP res) 1 23]):=by
 unfold slices_Grow_tree_Node_row_Row_tree_Node_row_Row at h0;refine CallF.mkG (X:=X) rfl Tryz.func275 rfl rfl Tryz.ntmps275 rfl rfl ?_;refine aS ?_;refine aA rfl rfl ?_;refine aN rfl ?_;refine T.seq ?_;refine aS ?_;iterate 2 refine aA rfl rfl ?_
 refine aN rfl ?_;rcases ite_some h0 with ⟨c1,h0⟩|⟨c1,h0⟩
 ·refine T.condT rfl (eT c1) ?_;cases h0
 refine T.condF rfl (eF c1) ?_;refine aK rfl ?_;refine T.seq ?_;refine aS ?_;iterate 2 refine aA rfl rfl ?_
 refine TL.op1 (OpR.capNil rfl rfl rfl) rfl ?_;iterate 2 refine aA rfl rfl ?_
 refine TL.op1 (OpR.cast (OpR.pure rfl) (intE (show w64 (0-0)=0 by decide))) rfl ?_;iterate 2 refine aA rfl rfl ?_
 refine aN rfl ?_;refine aS ?_;iterate 2 refine aA rfl rfl ?_
 refine aN rfl ?_;obtain⟨t2,ht2,h0⟩:=bS h0;refine T.cutC (fun S'=>∃ y3:Value,S'=⟨[(4,.val (.slice none 0 0)),(0,.val y3)],[.row y3 (List.map eNP t2) 1 23],27⟩) (fun _ h=>h) ?_ ?_;rotate_left
 ·rintro _ ⟨y3,rfl⟩;show T X _ _ _;refine aS ?_;iterate 2 refine aA rfl rfl ?_
  refine aN rfl ?_;refine T.ret ?_;obtain rfl:=osi h0;exact rO [0] [4] rfl (.tuple #[y3]) (cT rfl ResL.nil) rfl rfl rfl rfl
 rcases ite_some ht2 with ⟨c4,ht2⟩|⟨c4,ht2⟩;rotate_left
 ·refine T.condF rfl (eF c4) ?_;refine T.skip ?_;obtain rfl:=osi ht2;exact⟨_,Gst.trans (Gst.only [0,4] rfl) (Gst.nilRow (ow:=[]) 1 23 rfl),(.slice none 0 0),rfl⟩
 refine T.condT rfl (eT c4) ?_;refine T.region ?_;iterate 2 refine aA rfl rfl ?_
 refine TL.op1 (OpR.capNil rfl rfl rfl) rfl ?_;refine TL.op1 (OpR.sliceNil rfl rfl rfl rfl rfl) rfl ?_;refine aA rfl rfl ?_;obtain⟨x5,hx5,ht2⟩:=bS ht2;refine TL.op (OpR.appendZ hx5 rfl rfl rfl rfl rfl rfl rfl rfl rfl rfl (fun _=>rfl)) rfl (fun v6=>?_);iterate 2 refine aA rfl rfl ?_
 refine TL.op1 (OpR.slice0 0 rfl rfl rfl rfl rfl rfl) rfl ?_;refine aA rfl rfl ?_;refine TL.nil ?_;obtain rfl:=osi ht2;exact⟨_,Gst.only [0,4] rfl,(cut0 v6),rfl⟩
noncomputable def slices_Concat_tree_Node_row_Row_tree_Node_row_Row.l1 (a0:List (List NP)) (s2:Int × Int):Option (Lp (Int × Int) Int):=
 if s2.2<(a0.length:Int) then
 bnd (idx a0 s2.2) fun x11=>
 if (w64 (s2.1+(x11.length:Int)))<0 then
 none
else
 some (Lp.next (w64 (s2.1+(x11.length:Int)),w64 (s2.2+1)))
else
 some (Lp.done s2.1)
noncomputable def slices_Concat_tree_Node_row_Row_tree_Node_row_Row.l2 (a0:List (List NP)) (s18:Int × (List NP)):Option (Lp (Int × (List NP)) (List NP)):=
 if s18.1<(a0.length:Int) then
 bnd (idx a0 s18.1) fun x27=>
 bnd (app 8 s18.2 x27) fun x28=>
 some (Lp.next (w64 (s18.1+1),x28))
else
 some (Lp.done s18.2)
noncomputable def slices_Concat_tree_Node_row_Row_tree_Node_row_Row (a0:List (List NP)):Option (List NP):=
 bnd (loop (slices_Concat_tree_Node_row_Row_tree_Node_row_Row.l1 a0) (0,0):Option Int) fun t1=>
 bnd (slices_Grow_tree_Node_row_Row_tree_Node_row_Row t1) fun x13=>
 bnd (loop (slices_Concat_tree_Node_row_Row_tree_Node_row_Row.l2 a0) (0,x13):Option (List NP)) fun t15=>
 some t15
theorem slices_Concat_tree_Node_row_Row_tree_Node_row_Row_c {a0:List (List NP)} {res:(List NP)} (h0:slices_Concat_tree_Node_row_Row_tree_Node_row_Row a0=some res):CallF X 267 [.sl 1 (List.map e_sl221 a0)] [] (fun x=>.sl 1 (List.map eNP res)) (fun x=>[]):=by
 unfold slices_Concat_tree_Node_row_Row_tree_Node_row_Row at h0;refine CallF.mkG (X:=X) rfl Tryz.func267 rfl rfl Tryz.ntmps267 rfl rfl ?_;refine aS ?_;refine aA rfl rfl ?_;refine aN rfl ?_;refine aS ?_;refine aA rfl rfl ?_;refine aN rfl ?_;refine T.seq ?_;refine aS ?_;refine aA rfl rfl ?_;refine TL.op1 (OpR.cast (OpR.pure rfl) (intE (lenM _ _))) rfl ?_;refine aA rfl rfl ?_;refine aN rfl ?_;obtain⟨t1,ht1,h0⟩:=bS h0;refine T.cutC (fun S'=>S'=⟨[(3,(dN t1)),(2,.val (.slice none 0 0)),(0,.sl 1 (List.map e_sl221 a0))],[],36⟩) (fun _ h=>h) ?_ ?_
 ·refine T.block ?_;obtain⟨n3,n8⟩:=loop_some ht1;refine T.loop (fun n S'=>∃ S'',Gst S' S''∧∃ s2:Int × Int,S''=⟨[(11,(dN s2.2)),(10,(dN (a0.length:Int))),(9,.sl 1 (List.map e_sl221 a0)),(3,(dN s2.1)),(2,.val (.slice none 0 0)),(0,.sl 1 (List.map e_sl221 a0))],[],36⟩∧iter (slices_Concat_tree_Node_row_Row_tree_Node_row_Row.l1 a0) n s2=some t1) n3 ?_ ?_
  ·exact⟨_,Gst.only [0,2,3,9,10,11] rfl,(0,0),rfl,n8⟩
  rintro n3 _ ⟨_,g,s2,rfl,i7⟩;refine T.ghost g ?_;obtain⟨m4,q5,rfl,q6,i7⟩:=iter_succ i7;unfold slices_Concat_tree_Node_row_Row_tree_Node_row_Row.l1 at q6;refine aS ?_;refine aA rfl rfl ?_;refine aN rfl ?_;refine T.seq ?_;rcases ite_some q6 with ⟨c10,q6⟩|⟨c10,q6⟩;rotate_left
  ·refine T.condF rfl (eF c10) ?_;refine T.exit ?_;obtain rfl:=osi q6;obtain rfl:_=_:=i7;exact⟨_,Gst.only [0,2,3] rfl,rfl⟩
  refine T.condT rfl (eT c10) ?_;refine aK rfl ?_;refine T.seq ?_;refine T.block ?_;refine aS ?_;obtain⟨x11,hx11,q6⟩:=bS q6;refine TL.op1 (OpR.indexM e_sl221 hx11 rfl rfl rfl rfl rfl) rfl ?_;iterate 2 refine aA rfl rfl ?_
  refine aN rfl ?_;refine aS ?_;iterate 2 refine aA rfl rfl ?_
  refine TL.op1 (OpR.cast (OpR.pure rfl) (intE (lenM _ _))) rfl ?_;iterate 2 refine aA rfl rfl ?_
  refine aN rfl ?_;refine aS ?_;iterate 2 refine aA rfl rfl ?_
  refine aN rfl ?_;rcases ite_some q6 with ⟨c12,q6⟩|⟨c12,q6⟩
  ·refine T.condT rfl (eT c12) ?_;cases q6
  refine T.condF rfl (eF c12) ?_;refine aK rfl ?_;refine T.region ?_;iterate 2 refine aA rfl rfl ?_
  refine TL.nil ?_;obtain rfl:=osi q6;exact⟨m4,Nat.lt_succ_self _,_,Gst.only [0,2,3,9,10,11] rfl,(w64 (s2.1+(x11.length:Int)),w64 (s2.2+1)),rfl,i7⟩
 rintro _ rfl;show T X _ _ _;refine aS ?_;refine aA rfl rfl ?_;obtain⟨x13,hx13,h0⟩:=bS h0;refine TL.op (OpR.call [] fn275 (slices_Grow_tree_Node_row_Row_tree_Node_row_Row_c hx13) rfl rfl rfl (fun _=>rfl)) rfl (fun w14=>?_);refine aA rfl rfl ?_;refine aN rfl ?_;refine T.seq ?_;refine aS ?_;refine aA rfl rfl ?_;refine TL.op1 (OpR.cast (OpR.pure rfl) (intE (lenM _ _))) rfl ?_;refine aA rfl rfl ?_;refine aN rfl ?_;obtain⟨t15,ht15,h0⟩:=bS h0;refine T.cutC (fun S'=>∃ y16:Value,S'=⟨[(6,.val y16),(2,.val (.slice none 0 0))],[.row y16 (List.map eNP t15) 1 23],36⟩) (fun _ h=>h) ?_ ?_;rotate_left
 ·rintro _ ⟨y16,rfl⟩;show T X _ _ _;refine aS ?_;iterate 2 refine aA rfl rfl ?_
  refine aN rfl ?_;refine T.ret ?_;obtain rfl:=osi h0;exact PostG.retP (ks:=[]) (Gst.trans (Gst.only [2] rfl) (Gst.trans (Gst.freezeRow 0 rfl rfl (ReS.cons (Re.base .all) ReS.nil) (ReO.same ReO.nil)) (Gst.pick [] rfl rfl))) undef (cT rfl ResL.nil) rfl rfl rfl rfl
 refine T.block ?_;obtain⟨n19,n24⟩:=loop_some ht15;refine T.loop (fun n S'=>∃ S'',Gst S' S''∧∃ y17:Value,∃ s18:Int × (List NP),S''=⟨[(27,(dN s18.1)),(26,(dN (a0.length:Int))),(25,.sl 1 (List.map e_sl221 a0)),(6,.val y17),(2,.val (.slice none 0 0))],[.row y17 (List.map eNP s18.2) 1 23],36⟩∧iter (slices_Concat_tree_Node_row_Row_tree_Node_row_Row.l2 a0) n s18=some t15) n19 ?_ ?_
 ·exact⟨_,Gst.only [2,6,25,26,27] rfl,(vn w14 0),(0,x13),rfl,n24⟩
 rintro n19 _ ⟨_,g,y17,s18,rfl,i23⟩;refine T.ghost g ?_;obtain⟨m20,q21,rfl,q22,i23⟩:=iter_succ i23;unfold slices_Concat_tree_Node_row_Row_tree_Node_row_Row.l2 at q22;refine aS ?_;refine aA rfl rfl ?_;refine aN rfl ?_;refine T.seq ?_;rcases ite_some q22 with ⟨c26,q22⟩|⟨c26,q22⟩;rotate_left
 ·refine T.condF rfl (eF c26) ?_;refine T.exit ?_;obtain rfl:=osi q22;obtain rfl:_=_:=i23;exact⟨_,Gst.only [2,6] rfl,y17,rfl⟩
 refine T.condT rfl (eT c26) ?_;refine aK rfl ?_;refine T.seq ?_;refine T.block ?_;refine aS ?_;obtain⟨x27,hx27,q22⟩:=bS q22;refine TL.op1 (OpR.indexM e_sl221 hx27 rfl rfl rfl rfl rfl) rfl ?_;iterate 2 refine aA rfl rfl ?_
 refine aN rfl ?_;refine T.region ?_;iterate 2 refine aA rfl rfl ?_
 obtain⟨x28,hx28,q22⟩:=bS q22;refine TL.op (OpR.appendM (m:=x27) eNP 0 hx28 rfl rfl rfl rfl rfl rfl rfl rfl rfl (fun _=>rfl)) rfl (fun v29=>?_);refine aA rfl rfl ?_;refine aN rfl ?_;refine T.region ?_;iterate 2 refine aA rfl rfl ?_
 refine TL.nil ?_;obtain rfl:=osi q22;exact⟨m20,Nat.lt_succ_self _,_,Gst.only [2,6,25,26,27] rfl,v29,(w64 (s18.1+1),x28),rfl,i23⟩
noncomputable def tree_splice_tree_Node_row_Row (a0:List NP) (a1:Int) (a2:Int) (a3:List NP):Option (List NP):=
 bnd (cut a0 0 a1) fun x2=>
 bnd (cut a0 a2 (a0.length:Int)) fun x3=>
 bnd (slices_Concat_tree_Node_row_Row_tree_Node_row_Row [x2,a3,x3]) fun x4=>
 some x4
theorem tree_splice_tree_Node_row_Row_c {a0:List NP} {a1:Int} {a2:Int} {a3:List NP} {res:(List NP)} (h0:tree_splice_tree_Node_row_Row a0 a1 a2 a3=some res):CallF X 248 [.sl 1 (List.map eNP a0),dN a1,dN a2,.sl 1 (List.map eNP a3)] [] (fun x=>.sl 1 (List.map eNP res)) (fun x=>[]):=by
 unfold tree_splice_tree_Node_row_Row at h0;refine CallF.mkG (X:=X) rfl Tryz.func248 rfl rfl Tryz.ntmps248 rfl rfl ?_;refine aS ?_;refine aA rfl rfl ?_;refine aN rfl ?_;refine T.seq ?_;obtain⟨x2,hx2,h0⟩:=bS h0;obtain⟨x3,hx3,h0⟩:=bS h0;obtain⟨x4,hx4,h0⟩:=bS h0;refine T.drawQ drawsX [.sl 1 (List.map eNP a0),dN a1,.sl 1 (List.map eNP x2),.sl 1 (List.map eNP a3),.sl 1 (List.map eNP a0),dN a2,.sl 1 (List.map eNP x3),.sl 1 (List.map e_sl221 [x2,a3,x3]),.sl 1 (List.map eNP x4),.sl 1 (List.map eNP x4)] [8] (by decide +kernel) rfl ?_ rfl ?_;rotate_left
 ·show T X _ _ _;refine T.ret ?_;obtain rfl:=osi h0;exact rO [] [8] rfl undef (cT rfl ResL.nil) rfl rfl rfl rfl
 iterate 2 refine aB rfl rfl rfl ?_
 refine OpsQ.yes (Want.plain rfl) rfl (OpR.sliceM (sz:=1) eNP hx2 rfl rfl rfl rfl BdM.none (BdM.some rfl) rfl) ?_;iterate 3 refine aB rfl rfl rfl ?_
 refine OpsQ.yes (Want.plain rfl) rfl (OpR.sliceM (sz:=1) eNP hx3 rfl rfl rfl rfl (BdM.some rfl) BdM.none rfl) ?_;refine OpsQ.yes (Want.plain rfl) rfl (OpR.lit rfl rfl rfl rfl rfl rfl rfl) ?_;refine OpsQ.yes (Want.plain rfl) rfl (OpR.call0 fn267 (slices_Concat_tree_Node_row_Row_tree_Node_row_Row_c hx4) rfl) ?_;refine aB rfl rfl rfl ?_;exact OpsQ.nil
noncomputable def tree_Node_row_Row_set.body (self:(List NP)→(List row_Row)→Int→Int→row_Row→Option ((List NP) × (List row_Row) × Int)) (a0:List NP) (a1:List row_Row) (a2:Int) (a3:Int) (a4:row_Row):Option ((List NP) × (List row_Row) × Int):=
 bnd (tree_Node_row_Row_flat a0 a1 a2) fun x1=>
 if x1=true then
 bnd (tree_splice_row_Row a1 a3 (w64 (a3+1)) [a4]) fun x4=>
 bnd (tree_leaf_row_Row x4) fun x5=>
 some (x5.1,x5.2.1,x5.2.2)
else
 bnd (tree_Node_row_Row_kid a0 a1 a2 a3) fun x6=>
 bnd (idx a0 x6.1) fun x8=>
 bnd (o_tNd x8) fun x9=>
 bnd (self x9.fKids x9.fItems x9.fN x6.2 a4) fun x10=>
 bnd (tree_splice_tree_Node_row_Row a0 x6.1 (w64 (x6.1+1)) [(c_tNd (⟨x10.1,x10.2.1,x10.2.2⟩:tNd))]) fun x11=>
 bnd (tree_inner_row_Row x11) fun x12=>
 some (x12.1,x12.2.1,x12.2.2)
noncomputable def tree_Node_row_Row_set:Nat→(List NP)→(List row_Row)→Int→Int→row_Row→Option ((List NP) × (List row_Row) × Int)
| 0=>fun _ _ _ _ _=>none
| n+1=>tree_Node_row_Row_set.body (tree_Node_row_Row_set n)
theorem tree_Node_row_Row_set_c {fu:Nat} {a0:List NP} {a1:List row_Row} {a2:Int} {a3:Int} {a4:row_Row} {res:(List NP) × (List row_Row) × Int} (h0:tree_Node_row_Row_set fu a0 a1 a2 a3 a4=some res):CallF X 222 [.nod [.sl 1 (List.map eNP a0),.sl 3 (List.map e_row_Row a1),dN a2],dN a3,.agg [.sl 5 (List.map e_cell_Cell a4.fCells),dN a4.fEnd,dT a4.fHidden]] [] (fun x=>.nod [.sl 1 (List.map eNP res.1),.sl 3 (List.map e_row_Row res.2.1),dN res.2.2]) (fun x=>[]):=by
 induction fu generalizing a0 a1 a2 a3 a4 res
 ·exact nomatch h0
 rename_i fu ih
 replace h0:tree_Node_row_Row_set.body (tree_Node_row_Row_set fu) a0 a1 a2 a3 a4=some res:=h0
 unfold tree_Node_row_Row_set.body at h0;refine CallF.mkG (X:=X) rfl Tryz.func222 rfl rfl Tryz.ntmps222 rfl rfl ?_;refine aS ?_;refine TL.op1 (OpR.boxImm rfl rfl) rfl ?_;refine aA rfl rfl ?_;refine aN rfl ?_;refine T.seq ?_;refine aS ?_;refine aA rfl rfl ?_;obtain⟨x1,hx1,h0⟩:=bS h0;refine TL.op1 (OpR.call0 fn152 (tree_Node_row_Row_flat_c hx1) rfl) rfl ?_;refine aN rfl ?_;rcases ite_some h0 with ⟨c2,h0⟩|⟨c2,h0⟩
 ·refine T.condT rfl (c2) ?_;refine T.seq ?_;obtain⟨x4,hx4,h0⟩:=bS h0;obtain⟨x5,hx5,h0⟩:=bS h0;refine T.drawQ drawsX [.nod [.sl 1 (List.map eNP a0),.sl 3 (List.map e_row_Row a1),dN a2],.nod [.sl 1 (List.map eNP a0),.sl 3 (List.map e_row_Row a1),dN a2],.nod [.sl 3 (List.map e_row_Row a1),dN a2],.sl 3 (List.map e_row_Row a1),dN a3,dN a3,dN (w64 (a3+1)),.agg [.sl 5 (List.map e_cell_Cell a4.fCells),dN a4.fEnd,dT a4.fHidden],.sl 3 (List.map e_row_Row [a4]),.sl 3 (List.map e_row_Row x4),.nod [.sl 1 (List.map eNP x5.1),.sl 3 (List.map e_row_Row x5.2.1),dN x5.2.2],.nod [.sl 1 (List.map eNP x5.1),.sl 3 (List.map e_row_Row x5.2.1),dN x5.2.2]] [0,1,5,6] (by decide +kernel) rfl ?_ rfl ?_;rotate_left
  ·show T X _ _ _;refine T.ret ?_;obtain rfl:=osi h0;exact rO [] [6] rfl undef (cT rfl ResL.nil) rfl rfl rfl rfl
  iterate 8 refine aB rfl rfl rfl ?_
  refine OpsQ.yes (Want.plain rfl) rfl (OpR.lit rfl rfl rfl rfl rfl rfl rfl) ?_;refine OpsQ.yes (Want.plain rfl) rfl (OpR.call0 fn247 (tree_splice_row_Row_c hx4) rfl) ?_;refine OpsQ.yes (Want.plain rfl) rfl (OpR.call0 fn211 (tree_leaf_row_Row_c hx5) rfl) ?_;refine aB rfl rfl rfl ?_;exact OpsQ.nil
 refine T.condF rfl (eq_false_of_ne_true c2) ?_;refine aK rfl ?_;refine aS ?_;iterate 2 refine aA rfl rfl ?_
 obtain⟨x6,hx6,h0⟩:=bS h0;refine TL.op1 (OpR.call0 fn153 (tree_Node_row_Row_kid_c hx6) rfl) rfl ?_;iterate 5 refine aA rfl rfl ?_
 refine aN rfl ?_;refine T.seq ?_;obtain⟨x8,hx8,h0⟩:=bS h0;obtain⟨x9,hx9,h0⟩:=bS h0;rw[o_tNd_eq hx9] at hx8;obtain⟨x10,hx10,h0⟩:=bS h0;obtain⟨x11,hx11,h0⟩:=bS h0;obtain⟨x12,hx12,h0⟩:=bS h0;refine T.drawQ drawsX [.nod [.sl 1 (List.map eNP a0),.sl 3 (List.map e_row_Row a1),dN a2],.nod [.sl 1 (List.map eNP a0),.sl 3 (List.map e_row_Row a1),dN a2],.nod [.sl 1 (List.map eNP a0),.sl 3 (List.map e_row_Row a1),dN a2],.sl 1 (List.map eNP a0),dN x6.1,dN x6.1,dN (w64 (x6.1+1)),.nod [.sl 1 (List.map eNP a0),.sl 3 (List.map e_row_Row a1),dN a2],.nod [.sl 1 (List.map eNP a0),.sl 3 (List.map e_row_Row a1),dN a2],.nod [.sl 1 (List.map eNP a0),.sl 3 (List.map e_row_Row a1),dN a2],.sl 1 (List.map eNP a0),dN x6.1,.nod [.nod [.sl 1 (List.map eNP x9.fKids),.sl 3 (List.map e_row_Row x9.fItems),dN x9.fN]],.nod [.sl 1 (List.map eNP x9.fKids),.sl 3 (List.map e_row_Row x9.fItems),dN x9.fN],dN x6.2,.agg [.sl 5 (List.map e_cell_Cell a4.fCells),dN a4.fEnd,dT a4.fHidden],.nod [.sl 1 (List.map eNP x10.1),.sl 3 (List.map e_row_Row x10.2.1),dN x10.2.2],.sl 1 (List.map eNP [(c_tNd (⟨x10.1,x10.2.1,x10.2.2⟩:tNd))]),.sl 1 (List.map eNP x11),.nod [.sl 1 (List.map eNP x12.1),.sl 3 (List.map e_row_Row x12.2.1),dN x12.2.2],.nod [.sl 1 (List.map eNP x12.1),.sl 3 (List.map e_row_Row x12.2.1),dN x12.2.2]] [6] (by decide +kernel) rfl ?_ rfl ?_;rotate_left
 ·show T X _ _ _;refine T.ret ?_;obtain rfl:=osi h0;exact rO [] [6] rfl undef (cT rfl ResL.nil) rfl rfl rfl rfl
 iterate 12 refine aB rfl rfl rfl ?_
 refine OpsQ.yes (Want.plain rfl) rfl (OpR.indexM eNP hx8 rfl rfl rfl rfl rfl) ?_;iterate 3 refine aB rfl rfl rfl ?_
 refine OpsQ.yes (Want.plain rfl) rfl (OpR.call0 fn222 (ih hx10) rfl) ?_;refine OpsQ.yes (Want.plain rfl) rfl (OpR.lit rfl rfl rfl rfl rfl rfl rfl) ?_;refine OpsQ.yes (Want.plain rfl) rfl (OpR.call0 fn248 (tree_splice_tree_Node_row_Row_c hx11) rfl) ?_;refine OpsQ.yes (Want.plain rfl) rfl (OpR.call0 fn236 (tree_inner_row_Row_c hx12) rfl) ?_;refine aB rfl rfl rfl ?_;exact OpsQ.nil
noncomputable def tree_Tree_row_Row_Set (a0:tTr) (a1:Int) (a2:row_Row):Option (tTr × Bool):=
 bnd (tree_Tree_row_Row_has a0 a1) fun x2=>
 if x2=true then
 bnd (some a0.fRoot) fun q4=>match q4 with
| none=>
 none
| some z5=>
 bnd (o_tNd z5) fun x6=>
 bnd (tree_Node_row_Row_set 64 x6.fKids x6.fItems x6.fN a1 a2) fun x7=>
 some ((⟨(some (c_tNd (⟨x7.1,x7.2.1,x7.2.2⟩:tNd)))⟩:tTr),true)
else
 some (a0,false)
theorem tree_Tree_row_Row_Set_c {a0:tTr} {a1:Int} {a2:row_Row} {res:tTr × Bool} (h0:tree_Tree_row_Row_Set a0 a1 a2=some res):CallF X 187 [.agg [(eOP a0.fRoot)],dN a1,.agg [.sl 5 (List.map e_cell_Cell a2.fCells),dN a2.fEnd,dT a2.fHidden]] [] (fun x=>.tup [.agg [(eOP res.1.fRoot)],dT res.2]) (fun x=>[]):=by
 unfold tree_Tree_row_Row_Set at h0;refine CallF.mkG (X:=X) rfl Tryz.func187 rfl rfl Tryz.ntmps187 rfl rfl ?_;refine aS ?_;refine TL.op1 (OpR.boxImm rfl rfl) rfl ?_;refine TL.op1 (OpR.boxImm rfl rfl) rfl ?_;refine TL.op (OpR.alloc rfl rfl (fun _=>rfl)) rfl (fun p1=>?_);refine aA rfl rfl ?_;refine aN rfl ?_;refine T.seq ?_;refine aS ?_;iterate 2 refine aA rfl rfl ?_
 obtain⟨x2,hx2,h0⟩:=bS h0;refine TL.op1 (OpR.call0 fn151 (tree_Tree_row_Row_has_c hx2) rfl) rfl ?_;refine aA rfl rfl ?_;refine aN rfl ?_;rcases ite_some h0 with ⟨c3,h0⟩|⟨c3,h0⟩;rotate_left
 ·refine T.condT rfl (not_f (eq_false_of_ne_true c3)) ?_;refine aS ?_;refine aA rfl rfl ?_;refine TL.op0 (OpR.store 0 rfl rfl rfl rfl rfl rfl rfl rfl) ?_;refine aA rfl rfl ?_;refine aN rfl ?_;refine T.ret ?_;obtain rfl:=osi h0;exact rO [] [6,7] rfl undef (cV 0 rfl rfl rfl rfl (cT rfl ResL.nil)) rfl rfl rfl rfl
 refine T.condF rfl (not_t (c3)) ?_;refine aK rfl ?_;refine aS ?_;refine aA rfl rfl ?_;obtain⟨q4,hq4,h0⟩:=bS h0;rcases q4 with _|z5
 ·dsimp only at h0;refine TL.op1 (OpR.cast (OpR.pure rfl) (congrArg eOP (osi hq4))) rfl ?_;iterate 2 refine aA rfl rfl ?_
  exact (by cases h0)
 dsimp only at h0;obtain⟨x6,hx6,h0⟩:=bS h0;rw[o_tNd_eq hx6] at hq4;refine TL.op1 (OpR.cast (OpR.pure rfl) (congrArg eOP (osi hq4))) rfl ?_;iterate 2 refine aA rfl rfl ?_
 obtain⟨x7,hx7,h0⟩:=bS h0;refine TL.op1 (OpR.call0 fn222 (tree_Node_row_Row_set_c hx7) rfl) rfl ?_;refine TL.op1 (OpR.build rfl rfl rfl rfl rfl) rfl ?_;refine TL.op0 (OpR.store 0 rfl rfl rfl rfl rfl rfl rfl rfl) ?_;refine aA rfl rfl ?_;refine aN rfl ?_;refine T.ret ?_;obtain rfl:=osi h0;exact rO [] [6,7] rfl undef (cV 0 rfl rfl rfl rfl (cT rfl ResL.nil)) rfl rfl rfl rfl
noncomputable def grid_Grid_with (a0:grid_Grid) (a1:tTr) (a2:Bool):Option (grid_Grid × Int):=
 if a2=true then
 some ((⟨a1,a0.fTail,a0.fEnd⟩:grid_Grid),0)
else
 some ((⟨(⟨none⟩:tTr),false,0⟩:grid_Grid),5)
theorem grid_Grid_with_c {a0:grid_Grid} {a1:tTr} {a2:Bool} {res:grid_Grid × Int} (h0:grid_Grid_with a0 a1 a2=some res):CallF X 186 [.agg [(eOP a0.fRows.fRoot),dT a0.fTail,dN a0.fEnd],.agg [(eOP a1.fRoot)],dT a2] [] (fun x=>.tup [.agg [(eOP res.1.fRows.fRoot),dT res.1.fTail,dN res.1.fEnd],dN res.2]) (fun x=>[]):=by
 unfold grid_Grid_with at h0;refine CallF.mkG (X:=X) rfl Tryz.func186 rfl rfl Tryz.ntmps186 rfl rfl ?_;refine aS ?_;refine TL.op (OpR.boxVar rfl rfl (fun _=>rfl)) rfl (fun p1=>?_);refine TL.op1 (OpR.boxImm rfl rfl) rfl ?_;refine TL.op (OpR.alloc rfl rfl (fun _=>rfl)) rfl (fun p2=>?_);refine aA rfl rfl ?_;refine aN rfl ?_;refine T.seq ?_;refine aS ?_;iterate 2 refine aA rfl rfl ?_
 refine aN rfl ?_;rcases ite_some h0 with ⟨c3,h0⟩|⟨c3,h0⟩;rotate_left
 ·refine T.condT rfl (not_f (eq_false_of_ne_true c3)) ?_;refine aS ?_;refine TL.op1 (OpR.build rfl rfl rfl rfl rfl) rfl ?_;refine TL.op0 (OpR.store 1 rfl rfl rfl rfl rfl rfl rfl rfl) ?_;refine aA rfl rfl ?_;refine aN rfl ?_;refine T.ret ?_;obtain rfl:=osi h0;exact rP [] [6,7] [1] rfl rfl rfl undef (cV 0 rfl rfl rfl rfl (cT rfl ResL.nil)) rfl rfl rfl rfl
 refine T.condF rfl (not_t (c3)) ?_;refine aK rfl ?_;refine aS ?_;iterate 2 refine aA rfl rfl ?_
 refine TL.op0 (OpR.store 0 rfl rfl rfl rfl rfl rfl rfl rfl) ?_;refine aN rfl ?_;refine aS ?_;refine TL.op1 (OpR.loadPtr 0 rfl rfl rfl rfl) rfl ?_;refine TL.op0 (OpR.store 1 rfl rfl rfl rfl rfl rfl rfl rfl) ?_;refine aA rfl rfl ?_;refine aN rfl ?_;refine T.ret ?_;obtain rfl:=osi h0;exact rP [] [6,7] [1] rfl rfl rfl undef (cV 0 rfl rfl rfl rfl (cT rfl ResL.nil)) rfl rfl rfl rfl
noncomputable def grid_Grid_Put (a0:grid_Grid) (a1:Int) (a2:row_Row):Option (grid_Grid × Int):=
 bnd (tree_Tree_row_Row_Set a0.fRows a1 a2) fun x3=>
 bnd (grid_Grid_with a0 x3.1 x3.2) fun x4=>
 some (x4.1,x4.2)
theorem grid_Grid_Put_c {a0:grid_Grid} {a1:Int} {a2:row_Row} {res:grid_Grid × Int} (h0:grid_Grid_Put a0 a1 a2=some res):CallF X 120 [.agg [(eOP a0.fRows.fRoot),dT a0.fTail,dN a0.fEnd],dN a1,.agg [.sl 5 (List.map e_cell_Cell a2.fCells),dN a2.fEnd,dT a2.fHidden]] [] (fun x=>.tup [.agg [(eOP res.1.fRows.fRoot),dT res.1.fTail,dN res.1.fEnd],dN res.2]) (fun x=>[]):=by
 unfold grid_Grid_Put at h0;refine CallF.mkG (X:=X) rfl Tryz.func120 rfl rfl Tryz.ntmps120 rfl rfl ?_;refine aS ?_;refine TL.op1 (OpR.boxImm rfl rfl) rfl ?_;refine TL.op1 (OpR.boxImm rfl rfl) rfl ?_;refine TL.op (OpR.alloc rfl rfl (fun _=>rfl)) rfl (fun p1=>?_);refine aA rfl rfl ?_;refine aN rfl ?_;refine T.seq ?_;obtain⟨x3,hx3,h0⟩:=bS h0;obtain⟨x4,hx4,h0⟩:=bS h0;refine T.drawS drawsX (fun env2=>[.agg [(eOP a0.fRows.fRoot),dT a0.fTail,dN a0.fEnd],.nod [(eOP a0.fRows.fRoot),dT a0.fTail,dN a0.fEnd],.agg [(eOP a0.fRows.fRoot)],dN a1,.agg [.sl 5 (List.map e_cell_Cell a2.fCells),dN a2.fEnd,dT a2.fHidden],.tup [.agg [(eOP x3.1.fRoot)],dT x3.2],.agg [(eOP x3.1.fRoot)],dT x3.2,.tup [.agg [(eOP x4.1.fRows.fRoot),dT x4.1.fTail,dN x4.1.fEnd],dN x4.2],.agg [(eOP x4.1.fRows.fRoot),dT x4.1.fTail,dN x4.1.fEnd],dN x4.2,.dead,dN x4.2]) (fun D env2=>[(bif D 11 then .var (blk p1) [(eOP x4.1.fRows.fRoot),dT x4.1.fTail,dN x4.1.fEnd] 27 else .var (blk p1) [(eOP none),dT false,dN 0] 27)]) [0,0,2,0,0,30,62,62,255,511,511,2047,4095] [6,7] _ (by decide +kernel) (by decide +kernel) (fun _=>rfl) (fun _=>rfl) ?_ (fun _=>rfl) (fun _=>rfl) ?_;rotate_left
 ·intro env2;show T X _ _ _;refine T.ret ?_;obtain rfl:=osi h0;exact rO [] [6,7] rfl undef (cV 0 rfl rfl rfl rfl (cT rfl ResL.nil)) rfl rfl rfl rfl
 iterate 5 refine aC ?_
 refine oT (.tup [.agg [(eOP x3.1.fRoot)],dT x3.2]) (fun _ _=>OpR.call0 fn187 (tree_Tree_row_Row_Set_c hx3) rfl) ?_;iterate 2 refine aC ?_
 refine oT (.tup [.agg [(eOP x4.1.fRows.fRoot),dT x4.1.fTail,dN x4.1.fEnd],dN x4.2]) (fun _ _=>OpR.call0 fn186 (grid_Grid_with_c hx4) rfl) ?_;iterate 2 refine aC ?_
 refine OpsS.cons' true ?_ (fun _ _ _ _ _ _ _=>rfl) ?_
 ·intro D env2 hA;exact OpS.yp [(11,false)] ⟨hA.me,trivial⟩ (Want.plain rfl) (OpR.store 0 rfl rfl rfl rfl rfl rfl rfl rfl) (fun x=>rfl) (fun x=>rfl)
 refine aC ?_;exact trivial
noncomputable def ref11_Has (a0:ref11_Grid) (a1:Int):Option Bool:=
 bnd (if a1≥0 then
 some (decide (a1<(a0.fRows.length:Int)))
else
 some false:Option Bool) fun t1=>
 some t1
theorem ref11_Has_c {a0:ref11_Grid} {a1:Int} {res:Bool} (h0:ref11_Has a0 a1=some res):CallF X 64 [.agg [.sl 3 (List.map e_ref08_Row a0.fRows),dT a0.fTail,dN a0.fEnd],dN a1] [] (fun x=>(dT res)) (fun x=>[]):=by
 unfold ref11_Has at h0;refine CallF.mkG (X:=X) rfl Tryz.func64 rfl rfl Tryz.ntmps64 rfl rfl ?_;refine aS ?_;refine TL.op1 (OpR.boxImm rfl rfl) rfl ?_;refine aA rfl rfl ?_;refine aN rfl ?_;refine T.seq ?_;obtain⟨t1,ht1,h0⟩:=bS h0;refine T.cutC (fun S'=>S'=⟨[(4,(dT t1))],[],14⟩) (fun _ h=>h) ?_ ?_;rotate_left
 ·rintro _ rfl;show T X _ _ _;refine T.ret ?_;obtain rfl:=osi h0;exact rO [] [4] rfl undef (cT rfl ResL.nil) rfl rfl rfl rfl
 refine T.region ?_;iterate 3 refine aA rfl rfl ?_
 rcases ite_some ht1 with ⟨c2,ht1⟩|⟨c2,ht1⟩;rotate_left
 ·refine TL.off rfl rfl rfl rfl (eF c2) rfl rfl ?_;refine TL.off rfl rfl rfl rfl (eF c2) rfl rfl ?_;refine TL.off rfl rfl rfl rfl (eF c2) rfl rfl ?_;refine TL.off rfl rfl rfl rfl (eF c2) rfl rfl ?_;refine TL.off rfl rfl rfl rfl (eF c2) rfl rfl ?_;refine TL.op1 (OpR.pickF rfl (eF c2) rfl) rfl ?_;refine aA rfl rfl ?_;refine TL.nil ?_;obtain rfl:=osi ht1;exact⟨_,Gst.only [4] rfl,rfl⟩
 refine TL.on rfl rfl rfl rfl (eT c2) ?_;refine aA rfl rfl ?_;refine TL.on rfl rfl rfl rfl (eT c2) ?_;refine aA rfl rfl ?_;refine TL.on rfl rfl rfl rfl (eT c2) ?_;refine aA rfl rfl ?_;refine TL.on rfl rfl rfl rfl (eT c2) ?_;refine TL.op1 (OpR.cast (OpR.pure rfl) (intE (lenM _ _))) rfl ?_;refine TL.on rfl rfl rfl rfl (eT c2) ?_;refine aA rfl rfl ?_;refine TL.op1 (OpR.pickT rfl (eT c2) rfl) rfl ?_;refine aA rfl rfl ?_;refine TL.nil ?_;obtain rfl:=osi ht1;exact⟨_,Gst.only [4] rfl,rfl⟩
noncomputable def ref11_With (a0:ref11_Grid) (a1:List ref08_Row):Option (Bool × Int):=
 some (a0.fTail,a0.fEnd)
theorem ref11_With_c {a0:ref11_Grid} {a1:List ref08_Row} {v0:Value} {res:Bool × Int} (h0:ref11_With a0 a1=some res):CallF X 122 [.agg [.sl 3 (List.map e_ref08_Row a0.fRows),dT a0.fTail,dN a0.fEnd],.val v0] [.row v0 (List.map e_ref08_Row a1) 3 60] (fun x=>.agg [.val v0,dT res.1,dN res.2]) (fun x=>[.row v0 (List.map e_ref08_Row a1) 3 60]):=by
 unfold ref11_With at h0;refine CallF.mkG (X:=X) rfl Tryz.func122 rfl rfl Tryz.ntmps122 rfl rfl ?_;refine aS ?_;refine TL.op1 (OpR.boxImm rfl rfl) rfl ?_;refine TL.op (OpR.alloc rfl rfl (fun _=>rfl)) rfl (fun p1=>?_);refine aN rfl ?_;refine aS ?_;iterate 5 refine aA rfl rfl ?_
 refine TL.op1 (OpR.build rfl rfl rfl rfl rfl) rfl ?_;refine TL.op0 (OpR.store 1 rfl rfl rfl rfl rfl rfl rfl rfl) ?_;refine aN rfl ?_;refine T.ret ?_;obtain rfl:=osi h0;exact rO [0] [4] rfl undef (cV 1 rfl rfl rfl rfl ResL.nil) rfl rfl rfl rfl
noncomputable def ref11_Put.l1 (a0:ref11_Grid) (a1:Int) (a2:ref08_Row) (s7:Int × (List ref08_Row)):Option (Lp (Int × (List ref08_Row)) (List ref08_Row)):=
 if s7.1<(a0.fRows.length:Int) then
 bnd (idx a0.fRows s7.1) fun x16=>
 bnd (if s7.1=a1 then
 some (a2.fCells,a2.fEnd,a2.fHidden)
else
 some (x16.fCells,x16.fEnd,x16.fHidden):Option ((List ref07_Cell) × Int × Bool)) fun t18=>
 bnd (app 40 s7.2 [(⟨t18.1,t18.2.1,t18.2.2⟩:ref08_Row)]) fun x20=>
 some (Lp.next (w64 (s7.1+1),x20))
else
 some (Lp.done s7.2)
noncomputable def ref11_Put (a0:ref11_Grid) (a1:Int) (a2:ref08_Row):Option (ref11_Grid × Int):=
 bnd (ref11_Has a0 a1) fun x2=>
 if x2=true then
 bnd (loop (ref11_Put.l1 a0 a1 a2) (0,[]):Option (List ref08_Row)) fun t4=>
 bnd (ref11_With a0 t4) fun x22=>
 some ((⟨t4,x22.1,x22.2⟩:ref11_Grid),0)
else
 some ((⟨[],false,0⟩:ref11_Grid),5)
theorem ref11_Put_c {a0:ref11_Grid} {a1:Int} {a2:ref08_Row} {res:ref11_Grid × Int} (h0:ref11_Put a0 a1 a2=some res):CallF X 103 [.agg [.sl 3 (List.map e_ref08_Row a0.fRows),dT a0.fTail,dN a0.fEnd],dN a1,.agg [.sl 3 (List.map e_ref07_Cell a2.fCells),dN a2.fEnd,dT a2.fHidden]] [] (fun x=>.tup [.agg [.sl 3 (List.map e_ref08_Row res.1.fRows),dT res.1.fTail,dN res.1.fEnd],dN res.2]) (fun x=>[]):=by
 unfold ref11_Put at h0;refine CallF.mkG (X:=X) rfl Tryz.func103 rfl rfl Tryz.ntmps103 rfl rfl ?_;refine aS ?_;refine TL.op1 (OpR.boxImm rfl rfl) rfl ?_;refine TL.op1 (OpR.boxImm rfl rfl) rfl ?_;refine TL.op (OpR.alloc rfl rfl (fun _=>rfl)) rfl (fun p1=>?_);refine aA rfl rfl ?_;refine aN rfl ?_;refine T.seq ?_;refine aS ?_;iterate 2 refine aA rfl rfl ?_
 obtain⟨x2,hx2,h0⟩:=bS h0;refine TL.op1 (OpR.call0 fn64 (ref11_Has_c hx2) rfl) rfl ?_;refine aA rfl rfl ?_;refine aN rfl ?_;rcases ite_some h0 with ⟨c3,h0⟩|⟨c3,h0⟩;rotate_left
 ·refine T.condT rfl (not_f (eq_false_of_ne_true c3)) ?_;refine aS ?_;refine TL.op1 (OpR.build rfl rfl rfl rfl rfl) rfl ?_;refine TL.op0 (OpR.store 0 rfl rfl rfl rfl rfl rfl rfl rfl) ?_;refine aA rfl rfl ?_;refine aN rfl ?_;refine T.ret ?_;obtain rfl:=osi h0;exact PostG.retP (ks:=[]) (Gst.trans (Gst.only [6,7] rfl) (Gst.denil (ReS.cons Re.refl (ReS.cons Re.refl ReS.nil)) (ReO.var (ReL.cons (Re.base .nil) (ReL.cons Re.refl (ReL.cons Re.refl ReL.nil))) ReO.nil))) undef (cV 0 rfl rfl rfl rfl (cT rfl ResL.nil)) rfl rfl rfl rfl
 refine T.condF rfl (not_t (c3)) ?_;refine aK rfl ?_;refine aS ?_;refine aA rfl rfl ?_;refine aN rfl ?_;refine T.seq ?_;refine aS ?_;iterate 2 refine aA rfl rfl ?_
 refine TL.op1 (OpR.cast (OpR.pure rfl) (intE (lenM _ _))) rfl ?_;refine aA rfl rfl ?_;refine aN rfl ?_;obtain⟨t4,ht4,h0⟩:=bS h0;refine T.cutC (fun S'=>∃ y5:Value,S'=⟨[(8,.val y5),(7,(dN 0)),(6,(dP (blk p1))),(3,.nod [.sl 3 (List.map e_ref08_Row a0.fRows),dT a0.fTail,dN a0.fEnd])],[.var (blk p1) [.val (.slice none 0 0),dT false,dN 0] 31,.row y5 (List.map e_ref08_Row t4) 3 60],36⟩) (fun _ h=>h) ?_ ?_;rotate_left
 ·rintro _ ⟨y5,rfl⟩;show T X _ _ _;refine aS ?_;iterate 2 refine aA rfl rfl ?_
  obtain⟨x22,hx22,h0⟩:=bS h0;refine TL.op1 (OpR.call [1] fn122 (ref11_With_c hx22) rfl rfl rfl (fun _=>rfl)) rfl ?_;refine TL.op0 (OpR.store 0 rfl rfl rfl rfl rfl rfl rfl rfl) ?_;refine aA rfl rfl ?_;refine aN rfl ?_;refine T.ret ?_;obtain rfl:=osi h0;exact PostG.retP (ks:=[]) (Gst.trans (Gst.only [6,7] rfl) (Gst.trans (Gst.freezeRow 1 rfl rfl (ReS.cons Re.refl (ReS.cons Re.refl ReS.nil)) (ReO.var (ReL.cons (Re.base .all) (ReL.cons Re.refl (ReL.cons Re.refl ReL.nil))) (ReO.same ReO.nil))) (Gst.pick [0] rfl rfl))) undef (cV 0 rfl rfl rfl rfl (cT rfl ResL.nil)) rfl rfl rfl rfl
 refine T.block ?_;obtain⟨n8,n13⟩:=loop_some ht4;refine T.loop (fun n S'=>∃ S'',Gst S' S''∧∃ y6:Value,∃ s7:Int × (List ref08_Row),S''=⟨[(19,(dN s7.1)),(18,(dN (a0.fRows.length:Int))),(17,.sl 3 (List.map e_ref08_Row a0.fRows)),(8,.val y6),(7,(dN 0)),(6,(dP (blk p1))),(5,.nod [.sl 3 (List.map e_ref07_Cell a2.fCells),dN a2.fEnd,dT a2.fHidden]),(3,.nod [.sl 3 (List.map e_ref08_Row a0.fRows),dT a0.fTail,dN a0.fEnd]),(1,(dN a1))],[.var (blk p1) [.val (.slice none 0 0),dT false,dN 0] 31,.row y6 (List.map e_ref08_Row s7.2) 3 60],36⟩∧iter (ref11_Put.l1 a0 a1 a2) n s7=some t4) n8 ?_ ?_
 ·exact⟨_,Gst.trans (Gst.only [1,3,5,6,7,8,17,18,19] rfl) (Gst.nilRow (ow:=[.var (blk p1) [.val (.slice none 0 0),dT false,dN 0] 31]) 3 60 rfl),(.slice none 0 0),(0,[]),rfl,n13⟩
 rintro n8 _ ⟨_,g,y6,s7,rfl,i12⟩;refine T.ghost g ?_;obtain⟨m9,q10,rfl,q11,i12⟩:=iter_succ i12;unfold ref11_Put.l1 at q11;refine aS ?_;refine aA rfl rfl ?_;refine aN rfl ?_;refine T.seq ?_;rcases ite_some q11 with ⟨c15,q11⟩|⟨c15,q11⟩;rotate_left
 ·refine T.condF rfl (eF c15) ?_;refine T.exit ?_;obtain rfl:=osi q11;obtain rfl:_=_:=i12;exact⟨_,Gst.only [3,6,7,8] rfl,y6,rfl⟩
 refine T.condT rfl (eT c15) ?_;refine aK rfl ?_;refine T.seq ?_;refine T.block ?_;refine aS ?_;refine aA rfl rfl ?_;obtain⟨x16,hx16,q11⟩:=bS q11;refine TL.op1 (OpR.indexM e_ref08_Row hx16 rfl rfl rfl rfl rfl) rfl ?_;refine aA rfl rfl ?_;refine TL.op (OpR.alloc rfl rfl (fun _=>rfl)) rfl (fun p17=>?_);refine aA rfl rfl ?_;refine TL.op0 (OpR.store 2 rfl rfl rfl rfl rfl rfl rfl rfl) ?_;refine aN rfl ?_;refine T.seq ?_;refine aS ?_;iterate 3 refine aA rfl rfl ?_
 refine aN rfl ?_;obtain⟨t18,ht18,q11⟩:=bS q11;refine T.cutC (fun S'=>S'=⟨[(19,(dN s7.1)),(18,(dN (a0.fRows.length:Int))),(17,.sl 3 (List.map e_ref08_Row a0.fRows)),(10,(dP (blk p17))),(8,.val y6),(7,(dN 0)),(6,(dP (blk p1))),(5,.nod [.sl 3 (List.map e_ref07_Cell a2.fCells),dN a2.fEnd,dT a2.fHidden]),(3,.nod [.sl 3 (List.map e_ref08_Row a0.fRows),dT a0.fTail,dN a0.fEnd]),(1,(dN a1))],[.var (blk p1) [.val (.slice none 0 0),dT false,dN 0] 31,.row y6 (List.map e_ref08_Row s7.2) 3 60,.var (blk p17) [.sl 3 (List.map e_ref07_Cell t18.1),dN t18.2.1,dT t18.2.2] 60],36⟩) (fun _ h=>h) ?_ ?_
 ·rcases ite_some ht18 with ⟨c19,ht18⟩|⟨c19,ht18⟩;rotate_left
  ·refine T.condF rfl (beq_eq_false_iff_ne.2 c19) ?_;refine T.skip ?_;obtain rfl:=osi ht18;exact⟨_,Gst.only [1,3,5,6,7,8,10,17,18,19] rfl,rfl⟩
  refine T.condT rfl (beq_iff_eq.2 c19) ?_;refine T.region ?_;refine aA rfl rfl ?_;refine TL.op0 (OpR.store 2 rfl rfl rfl rfl rfl rfl rfl rfl) ?_;refine TL.nil ?_;obtain rfl:=osi ht18;exact⟨_,Gst.only [1,3,5,6,7,8,10,17,18,19] rfl,rfl⟩
 rintro _ rfl;show T X _ _ _;refine T.region ?_;refine aA rfl rfl ?_;refine TL.op1 (OpR.loadPtr 2 rfl rfl rfl rfl) rfl ?_;refine TL.op1 (OpR.lit rfl rfl rfl rfl rfl rfl rfl) rfl ?_;obtain⟨x20,hx20,q11⟩:=bS q11;refine TL.op (OpR.appendM (m:=[(⟨t18.1,t18.2.1,t18.2.2⟩:ref08_Row)]) e_ref08_Row 1 hx20 rfl rfl rfl rfl rfl rfl rfl rfl rfl (fun _=>rfl)) rfl (fun v21=>?_);refine aA rfl rfl ?_;refine aN rfl ?_;refine T.region ?_;iterate 2 refine aA rfl rfl ?_
 refine TL.nil ?_;obtain rfl:=osi q11;exact⟨m9,Nat.lt_succ_self _,_,gP [1,3,5,6,7,8,17,18,19] [0,1] rfl rfl rfl,v21,(w64 (s7.1+1),x20),rfl,i12⟩
noncomputable def law16_Hide.l1 (a1:Int) (s10:Int × (Option NP) × Bool × Int × (List ref08_Row) × Bool × Int):Option (Lp (Int × (Option NP) × Bool × Int × (List ref08_Row) × Bool × Int) ((Option NP) × Bool × Int × (List ref08_Row) × Bool × Int)):=
 bnd (bnd (grid_Grid_Len (⟨(⟨s10.2.1⟩:tTr),s10.2.2.1,s10.2.2.2.1⟩:grid_Grid)) fun x19=>
 if s10.1<x19 then
 some (decide (s10.1<64))
else
 some false:Option Bool) fun t18=>
 if t18=true then
 bnd (bnd (shv .u64 a1 (IntKind.wrap .u64 s10.1)) fun x23=>
 if (IntKind.wrap .u64 (iand .u64 x23 1))=0 then
 some (s10.2.1,s10.2.2.1,s10.2.2.2.1,s10.2.2.2.2.1,s10.2.2.2.2.2.1,s10.2.2.2.2.2.2)
else
 bnd (grid_Grid_Row (⟨(⟨s10.2.1⟩:tTr),s10.2.2.1,s10.2.2.2.1⟩:grid_Grid) s10.1) fun x25=>
 bnd (row_Row_Hide x25.1 true) fun x28=>
 bnd (grid_Grid_Put (⟨(⟨s10.2.1⟩:tTr),s10.2.2.1,s10.2.2.2.1⟩:grid_Grid) s10.1 x28) fun x29=>
 bnd (idx s10.2.2.2.2.1 s10.1) fun x30=>
 bnd (ref11_Put (⟨s10.2.2.2.2.1,s10.2.2.2.2.2.1,s10.2.2.2.2.2.2⟩:ref11_Grid) s10.1 (⟨x30.fCells,x30.fEnd,true⟩:ref08_Row)) fun x32=>
 some (x29.1.fRows.fRoot,x29.1.fTail,x29.1.fEnd,x32.1.fRows,x32.1.fTail,x32.1.fEnd):Option ((Option NP) × Bool × Int × (List ref08_Row) × Bool × Int)) fun t22=>
 some (Lp.next (w64 (s10.1+1),t22.1,t22.2.1,t22.2.2.1,t22.2.2.2.1,t22.2.2.2.2.1,t22.2.2.2.2.2))
else
 some (Lp.done (s10.2.1,s10.2.2.1,s10.2.2.2.1,s10.2.2.2.2.1,s10.2.2.2.2.2.1,s10.2.2.2.2.2.2))
noncomputable def law16_Hide (a0:List UInt8) (a1:Int):Option ((grid_Grid × ref11_Grid × Bool × (List UInt8)) ⊕ (grid_Grid × ref11_Grid)):=
 bnd (law11_Cut a0 1500) fun x3=>
 bnd (law11_Begun x3) fun x4=>
 match x4 with
| .inl x4=>
 if x4.2.2.1=true then
 bnd (loop (law16_Hide.l1 a1) (0,x4.1.fRows.fRoot,x4.1.fTail,x4.1.fEnd,x4.2.1.fRows,x4.2.1.fTail,x4.2.1.fEnd):Option ((Option NP) × Bool × Int × (List ref08_Row) × Bool × Int)) fun t9=>
 some (Sum.inl ((⟨(⟨t9.1⟩:tTr),t9.2.1,t9.2.2.1⟩:grid_Grid),(⟨t9.2.2.2.1,t9.2.2.2.2.1,t9.2.2.2.2.2⟩:ref11_Grid),true,x4.2.2.2))
else
 some (Sum.inl (x4.1,x4.2.1,false,x4.2.2.2))
| .inr x4=>
 some (Sum.inr (x4.1,x4.2))
theorem law16_Hide_c {a0:List UInt8} {a1:Int} {res:(grid_Grid × ref11_Grid × Bool × (List UInt8)) ⊕ (grid_Grid × ref11_Grid)} (h0:law16_Hide a0 a1=some res):CallF X 49 [.val (.string (bs a0)),.val (.int .u64 a1)] [] (fun x=>(match res with | .inl res=>.tup [.agg [(eOP res.1.fRows.fRoot),dT res.1.fTail,dN res.1.fEnd],dP (blk (vn x 0)),.agg [.sl 3 (List.map e_ref08_Row res.2.1.fRows),dT res.2.1.fTail,dN res.2.1.fEnd],dT res.2.2.1] | .inr res=>.tup [.agg [(eOP res.1.fRows.fRoot),dT res.1.fTail,dN res.1.fEnd],dQ,.agg [.sl 3 (List.map e_ref08_Row res.2.fRows),dT res.2.fTail,dN res.2.fEnd],dT false])) (fun x=>(match res with | .inl res=>[.var (blk (vn x 0)) [.val (vn x 1)] 264,.row (vn x 1) (lB res.2.2.2) 1 5] | .inr res=>[])):=by
 unfold law16_Hide at h0;refine CallF.mkG (X:=X) rfl Tryz.func49 rfl rfl Tryz.ntmps49 rfl rfl ?_;refine aS ?_;refine TL.op (OpR.alloc rfl rfl (fun _=>rfl)) rfl (fun p1=>?_);refine aA rfl rfl ?_;refine TL.op (OpR.alloc rfl rfl (fun _=>rfl)) rfl (fun p2=>?_);refine aA rfl rfl ?_;refine aN rfl ?_;refine aS ?_;refine aA rfl rfl ?_;obtain⟨x3,hx3,h0⟩:=bS h0;refine TL.op1 (OpR.call0 fn15 (law11_Cut_c hx3) rfl) rfl ?_;obtain⟨x4,hx4,h0⟩:=bS h0;rcases x4 with x4|x4;rotate_left
 ·dsimp only at h0;refine TL.op1 (OpR.call0 fn14 (law11_Begun_cx2 hx4) rfl) rfl ?_;iterate 5 refine aA rfl rfl ?_
  refine TL.op (OpR.alloc rfl rfl (fun _=>rfl)) rfl (fun p35=>?_);refine TL.op (OpR.alloc rfl rfl (fun _=>rfl)) rfl (fun p36=>?_);refine TL.op0 (OpR.store 2 rfl rfl rfl rfl rfl rfl rfl rfl) ?_;refine aA rfl rfl ?_;refine TL.op0 (OpR.store 3 rfl rfl rfl rfl rfl rfl rfl rfl) ?_;refine aA rfl rfl ?_;refine aN rfl ?_;refine T.seq ?_;refine aS ?_;iterate 2 refine aA rfl rfl ?_
  refine aN rfl ?_;refine T.condT rfl rfl ?_;refine T.seq ?_;refine T.drawS drawsX (fun env37=>[.agg [(eOP x4.1.fRows.fRoot),dT x4.1.fTail,dN x4.1.fEnd],dQ,.agg [.sl 3 (List.map e_ref08_Row x4.2.fRows),dT x4.2.fTail,dN x4.2.fEnd],.dead,dQ,.dead,dT false]) (fun D env37=>[(bif D 3 then .var (blk p1) [(eOP x4.1.fRows.fRoot),dT x4.1.fTail,dN x4.1.fEnd] 27 else .var (blk p1) [(eOP none),dT false,dN 0] 27),(bif D 5 then .var (blk p2) [.sl 3 (List.map e_ref08_Row x4.2.fRows),dT x4.2.fTail,dN x4.2.fEnd] 31 else .var (blk p2) [.val (.slice none 0 0),dT false,dN 0] 31),.var (blk p35) [(eOP x4.1.fRows.fRoot),dT x4.1.fTail,dN x4.1.fEnd] 27,.var (blk p36) [.sl 3 (List.map e_ref08_Row x4.2.fRows),dT x4.2.fTail,dN x4.2.fEnd] 31]) [0,0,0,1,11,31,63] [1,4,5,6,7,8,9,10] _ (by decide +kernel) (by decide +kernel) (fun _=>rfl) (fun _=>rfl) ?_ (fun _=>rfl) (fun _=>rfl) ?_;rotate_left
  ·intro env37;show T X _ _ _;refine T.ret ?_;obtain rfl:=osi h0;exact rP [] [4,5,6,7] [0,1] rfl rfl rfl undef (cV 0 rfl rfl rfl rfl (cT rfl (cV 1 rfl rfl rfl rfl (cT rfl ResL.nil)))) rfl rfl rfl rfl
  refine oT (.agg [(eOP x4.1.fRows.fRoot),dT x4.1.fTail,dN x4.1.fEnd]) (fun _ _=>OpR.loadPtr 2 rfl rfl rfl rfl) ?_;refine aC ?_;refine oT (.agg [.sl 3 (List.map e_ref08_Row x4.2.fRows),dT x4.2.fTail,dN x4.2.fEnd]) (fun _ _=>OpR.loadPtr 3 rfl rfl rfl rfl) ?_;refine OpsS.cons' true ?_ (fun _ _ _ _ _ _ _=>rfl) ?_
  ·intro D env37 hA;have e5:D 5=false:=hA.no 5 _ rfl rfl;exact OpS.yp [(5,false),(3,false)] ⟨e5,hA.me,trivial⟩ (Want.plain rfl) (OpR.store 0 rfl rfl rfl rfl rfl rfl rfl rfl) (fun x=>rfl) (fun x=>rfl)
  refine aC ?_;refine OpsS.cons' true ?_ (fun _ _ _ _ _ _ _=>rfl) ?_
  ·intro D env37 hA;have e3:D 3=true:=hA.yes 3 _ rfl rfl;exact OpS.yp [(3,true),(5,false)] ⟨e3,hA.me,trivial⟩ (Want.plain rfl) (OpR.store 1 rfl rfl rfl rfl rfl rfl rfl rfl) (fun x=>rfl) (fun x=>rfl)
  refine aC ?_;exact trivial
 dsimp only at h0;refine TL.op (OpR.call [] fn14 (law11_Begun_cx1 hx4) rfl rfl rfl (fun _=>rfl)) rfl (fun w5=>?_);iterate 5 refine aA rfl rfl ?_
 refine TL.op (OpR.alloc rfl rfl (fun _=>rfl)) rfl (fun p6=>?_);refine TL.op (OpR.alloc rfl rfl (fun _=>rfl)) rfl (fun p7=>?_);refine TL.op0 (OpR.store 4 rfl rfl rfl rfl rfl rfl rfl rfl) ?_;refine aA rfl rfl ?_;refine TL.op0 (OpR.store 5 rfl rfl rfl rfl rfl rfl rfl rfl) ?_;refine aA rfl rfl ?_;refine aN rfl ?_;refine T.seq ?_;refine aS ?_;iterate 2 refine aA rfl rfl ?_
 refine aN rfl ?_;rcases ite_some h0 with ⟨c8,h0⟩|⟨c8,h0⟩;rotate_left
 ·refine T.condT rfl (not_f (eq_false_of_ne_true c8)) ?_;refine T.seq ?_;refine T.drawS drawsX (fun env34=>[.agg [(eOP x4.1.fRows.fRoot),dT x4.1.fTail,dN x4.1.fEnd],dP (blk (vn w5 0)),.agg [.sl 3 (List.map e_ref08_Row x4.2.1.fRows),dT x4.2.1.fTail,dN x4.2.1.fEnd],.dead,dP (blk (vn w5 0)),.dead,dT false]) (fun D env34=>[(bif D 3 then .var (blk p1) [(eOP x4.1.fRows.fRoot),dT x4.1.fTail,dN x4.1.fEnd] 27 else .var (blk p1) [(eOP none),dT false,dN 0] 27),(bif D 5 then .var (blk p2) [.sl 3 (List.map e_ref08_Row x4.2.1.fRows),dT x4.2.1.fTail,dN x4.2.1.fEnd] 31 else .var (blk p2) [.val (.slice none 0 0),dT false,dN 0] 31),.var (blk (vn w5 0)) [.val (vn w5 1)] 264,.row (vn w5 1) (lB x4.2.2.2) 1 5,.var (blk p6) [(eOP x4.1.fRows.fRoot),dT x4.1.fTail,dN x4.1.fEnd] 27,.var (blk p7) [.sl 3 (List.map e_ref08_Row x4.2.1.fRows),dT x4.2.1.fTail,dN x4.2.1.fEnd] 31]) [0,0,0,1,11,31,63] [1,4,5,6,7,8,9,10] _ (by decide +kernel) (by decide +kernel) (fun _=>rfl) (fun _=>rfl) ?_ (fun _=>rfl) (fun _=>rfl) ?_;rotate_left
  ·intro env34;show T X _ _ _;refine T.ret ?_;obtain rfl:=osi h0;exact rP [1,3] [4,5,6,7] [0,2,1,3] rfl rfl rfl (.tuple #[(vn w5 0),(vn w5 1)]) (cV 0 rfl rfl rfl rfl (cT rfl (cV 2 rfl rfl rfl rfl (cT rfl ResL.nil)))) rfl rfl rfl rfl
  refine oT (.agg [(eOP x4.1.fRows.fRoot),dT x4.1.fTail,dN x4.1.fEnd]) (fun _ _=>OpR.loadPtr 4 rfl rfl rfl rfl) ?_;refine aC ?_;refine oT (.agg [.sl 3 (List.map e_ref08_Row x4.2.1.fRows),dT x4.2.1.fTail,dN x4.2.1.fEnd]) (fun _ _=>OpR.loadPtr 5 rfl rfl rfl rfl) ?_;refine OpsS.cons' true ?_ (fun _ _ _ _ _ _ _=>rfl) ?_
  ·intro D env34 hA;have e5:D 5=false:=hA.no 5 _ rfl rfl;exact OpS.yp [(5,false),(3,false)] ⟨e5,hA.me,trivial⟩ (Want.plain rfl) (OpR.store 0 rfl rfl rfl rfl rfl rfl rfl rfl) (fun x=>rfl) (fun x=>rfl)
  refine aC ?_;refine OpsS.cons' true ?_ (fun _ _ _ _ _ _ _=>rfl) ?_
  ·intro D env34 hA;have e3:D 3=true:=hA.yes 3 _ rfl rfl;exact OpS.yp [(3,true),(5,false)] ⟨e3,hA.me,trivial⟩ (Want.plain rfl) (OpR.store 1 rfl rfl rfl rfl rfl rfl rfl rfl) (fun x=>rfl) (fun x=>rfl)
  refine aC ?_;exact trivial
 refine T.condF rfl (not_t (c8)) ?_;refine aK rfl ?_;refine T.seq ?_;refine aS ?_;refine aA rfl rfl ?_;refine aN rfl ?_;obtain⟨t9,ht9,h0⟩:=bS h0;refine T.cutC (fun S'=>S'=⟨[(10,(dP (blk p7))),(9,(dP (blk (vn w5 0)))),(8,(dP (blk p6))),(7,(dT false)),(6,(dP (blk p2))),(5,dQ),(4,(dP (blk p1)))],[.var (blk p1) [(eOP none),dT false,dN 0] 27,.var (blk p2) [.val (.slice none 0 0),dT false,dN 0] 31,.var (blk p6) [(eOP t9.1),dT t9.2.1,dN t9.2.2.1] 27,.var (blk (vn w5 0)) [.val (vn w5 1)] 264,.var (blk p7) [.sl 3 (List.map e_ref08_Row t9.2.2.2.1),dT t9.2.2.2.2.1,dN t9.2.2.2.2.2] 31,.row (vn w5 1) (lB x4.2.2.2) 1 5],75⟩) (fun _ h=>h) ?_ ?_;rotate_left
 ·rintro _ rfl;show T X _ _ _;refine T.seq ?_;refine T.drawS drawsX (fun env33=>[.agg [(eOP t9.1),dT t9.2.1,dN t9.2.2.1],dP (blk (vn w5 0)),.agg [.sl 3 (List.map e_ref08_Row t9.2.2.2.1),dT t9.2.2.2.2.1,dN t9.2.2.2.2.2],.dead,dP (blk (vn w5 0)),.dead,dT true]) (fun D env33=>[(bif D 3 then .var (blk p1) [(eOP t9.1),dT t9.2.1,dN t9.2.2.1] 27 else .var (blk p1) [(eOP none),dT false,dN 0] 27),(bif D 5 then .var (blk p2) [.sl 3 (List.map e_ref08_Row t9.2.2.2.1),dT t9.2.2.2.2.1,dN t9.2.2.2.2.2] 31 else .var (blk p2) [.val (.slice none 0 0),dT false,dN 0] 31),.var (blk p6) [(eOP t9.1),dT t9.2.1,dN t9.2.2.1] 27,.var (blk (vn w5 0)) [.val (vn w5 1)] 264,.var (blk p7) [.sl 3 (List.map e_ref08_Row t9.2.2.2.1),dT t9.2.2.2.2.1,dN t9.2.2.2.2.2] 31,.row (vn w5 1) (lB x4.2.2.2) 1 5]) [0,0,0,1,11,31,63] [4,5,6,7] _ (by decide +kernel) (by decide +kernel) (fun _=>rfl) (fun _=>rfl) ?_ (fun _=>rfl) (fun _=>rfl) ?_;rotate_left
  ·intro env33;show T X _ _ _;refine T.ret ?_;obtain rfl:=osi h0;exact rP [1,3] [4,5,6,7] [0,3,1,5] rfl rfl rfl (.tuple #[(vn w5 0),(vn w5 1)]) (cV 0 rfl rfl rfl rfl (cT rfl (cV 2 rfl rfl rfl rfl (cT rfl ResL.nil)))) rfl rfl rfl rfl
  refine oT (.agg [(eOP t9.1),dT t9.2.1,dN t9.2.2.1]) (fun _ _=>OpR.loadPtr 2 rfl rfl rfl rfl) ?_;refine aC ?_;refine oT (.agg [.sl 3 (List.map e_ref08_Row t9.2.2.2.1),dT t9.2.2.2.2.1,dN t9.2.2.2.2.2]) (fun _ _=>OpR.loadPtr 4 rfl rfl rfl rfl) ?_;refine OpsS.cons' true ?_ (fun _ _ _ _ _ _ _=>rfl) ?_
  ·intro D env33 hA;have e5:D 5=false:=hA.no 5 _ rfl rfl;exact OpS.yp [(5,false),(3,false)] ⟨e5,hA.me,trivial⟩ (Want.plain rfl) (OpR.store 0 rfl rfl rfl rfl rfl rfl rfl rfl) (fun x=>rfl) (fun x=>rfl)
  refine aC ?_;refine OpsS.cons' true ?_ (fun _ _ _ _ _ _ _=>rfl) ?_
  ·intro D env33 hA;have e3:D 3=true:=hA.yes 3 _ rfl rfl;exact OpS.yp [(3,true),(5,false)] ⟨e3,hA.me,trivial⟩ (Want.plain rfl) (OpR.store 1 rfl rfl rfl rfl rfl rfl rfl rfl) (fun x=>rfl) (fun x=>rfl)
  refine aC ?_;exact trivial
 refine T.block ?_;obtain⟨n11,n16⟩:=loop_some ht9;refine T.loop (fun n S'=>∃ S'',Gst S' S''∧∃ s10:Int × (Option NP) × Bool × Int × (List ref08_Row) × Bool × Int,S''=⟨[(12,(dN s10.1)),(10,(dP (blk p7))),(9,(dP (blk (vn w5 0)))),(8,(dP (blk p6))),(7,(dT false)),(6,(dP (blk p2))),(5,dQ),(4,(dP (blk p1))),(1,.val (.int .u64 a1))],[.var (blk p1) [(eOP none),dT false,dN 0] 27,.var (blk p2) [.val (.slice none 0 0),dT false,dN 0] 31,.var (blk p6) [(eOP s10.2.1),dT s10.2.2.1,dN s10.2.2.2.1] 27,.var (blk (vn w5 0)) [.val (vn w5 1)] 264,.var (blk p7) [.sl 3 (List.map e_ref08_Row s10.2.2.2.2.1),dT s10.2.2.2.2.2.1,dN s10.2.2.2.2.2.2] 31,.row (vn w5 1) (lB x4.2.2.2) 1 5],75⟩∧iter (law16_Hide.l1 a1) n s10=some t9) n11 ?_ ?_
 ·exact⟨_,gP [1,4,5,6,7,8,9,10,12] [0,1,4,2,5,3] rfl rfl rfl,(0,x4.1.fRows.fRoot,x4.1.fTail,x4.1.fEnd,x4.2.1.fRows,x4.2.1.fTail,x4.2.1.fEnd),rfl,n16⟩
 rintro n11 _ ⟨_,g,s10,rfl,i15⟩;refine T.ghost g ?_;obtain⟨m12,q13,rfl,q14,i15⟩:=iter_succ i15;unfold law16_Hide.l1 at q14;refine T.seq ?_;refine T.seq ?_;obtain⟨t18,ht18,q14⟩:=bS q14;refine T.cutC (fun S'=>S'=⟨[(36,(dT t18)),(12,(dN s10.1)),(10,(dP (blk p7))),(9,(dP (blk (vn w5 0)))),(8,(dP (blk p6))),(7,(dT false)),(6,(dP (blk p2))),(5,dQ),(4,(dP (blk p1))),(1,.val (.int .u64 a1))],[.var (blk p1) [(eOP none),dT false,dN 0] 27,.var (blk p2) [.val (.slice none 0 0),dT false,dN 0] 31,.var (blk p6) [(eOP s10.2.1),dT s10.2.2.1,dN s10.2.2.2.1] 27,.var (blk (vn w5 0)) [.val (vn w5 1)] 264,.var (blk p7) [.sl 3 (List.map e_ref08_Row s10.2.2.2.2.1),dT s10.2.2.2.2.2.1,dN s10.2.2.2.2.2.2] 31,.row (vn w5 1) (lB x4.2.2.2) 1 5],75⟩) (fun _ h=>h) ?_ ?_
 ·refine T.region ?_;refine aA rfl rfl ?_;refine TL.op1 (OpR.loadPtr 2 rfl rfl rfl rfl) rfl ?_;obtain⟨x19,hx19,ht18⟩:=bS ht18;refine TL.op1 (OpR.call0 fn22 (grid_Grid_Len_c hx19) rfl) rfl ?_;iterate 2 refine aA rfl rfl ?_
  rcases ite_some ht18 with ⟨c20,ht18⟩|⟨c20,ht18⟩;rotate_left
  ·refine TL.off rfl rfl rfl rfl (eF c20) rfl rfl ?_;refine TL.off rfl rfl rfl rfl (eF c20) rfl rfl ?_;refine TL.op1 (OpR.pickF rfl (eF c20) rfl) rfl ?_;refine TL.nil ?_;obtain rfl:=osi ht18;exact⟨_,Gst.only [1,4,5,6,7,8,9,10,12,36] rfl,rfl⟩
  refine TL.on rfl rfl rfl rfl (eT c20) ?_;refine aA rfl rfl ?_;refine TL.on rfl rfl rfl rfl (eT c20) ?_;refine aA rfl rfl ?_;refine TL.op1 (OpR.pickT rfl (eT c20) rfl) rfl ?_;refine TL.nil ?_;obtain rfl:=osi ht18;exact⟨_,Gst.only [1,4,5,6,7,8,9,10,12,36] rfl,rfl⟩
 rintro _ rfl;show T X _ _ _;rcases ite_some q14 with ⟨c21,q14⟩|⟨c21,q14⟩;rotate_left
 ·refine T.condF rfl (eq_false_of_ne_true c21) ?_;refine T.exit ?_;obtain rfl:=osi q14;obtain rfl:_=_:=i15;exact⟨_,Gst.only [4,5,6,7,8,9,10] rfl,rfl⟩
 refine T.condT rfl (c21) ?_;refine aK rfl ?_;refine T.seq ?_;obtain⟨t22,ht22,q14⟩:=bS q14;refine T.cutC (fun S'=>S'=⟨[(12,(dN s10.1)),(10,(dP (blk p7))),(9,(dP (blk (vn w5 0)))),(8,(dP (blk p6))),(7,(dT false)),(6,(dP (blk p2))),(5,dQ),(4,(dP (blk p1))),(1,.val (.int .u64 a1))],[.var (blk p1) [(eOP none),dT false,dN 0] 27,.var (blk p2) [.val (.slice none 0 0),dT false,dN 0] 31,.var (blk p6) [(eOP t22.1),dT t22.2.1,dN t22.2.2.1] 27,.var (blk (vn w5 0)) [.val (vn w5 1)] 264,.var (blk p7) [.sl 3 (List.map e_ref08_Row t22.2.2.2.1),dT t22.2.2.2.2.1,dN t22.2.2.2.2.2] 31,.row (vn w5 1) (lB x4.2.2.2) 1 5],75⟩) (fun _ h=>h) ?_ ?_;rotate_left
 ·rintro _ rfl;show T X _ _ _;refine T.region ?_;iterate 3 refine aA rfl rfl ?_
  refine TL.nil ?_;obtain rfl:=osi q14;exact⟨m12,Nat.lt_succ_self _,_,Gst.only [1,4,5,6,7,8,9,10,12] rfl,(w64 (s10.1+1),t22.1,t22.2.1,t22.2.2.1,t22.2.2.2.1,t22.2.2.2.2.1,t22.2.2.2.2.2),rfl,i15⟩
 refine T.block ?_;refine T.seq ?_;refine aS ?_;iterate 3 refine aA rfl rfl ?_
 obtain⟨x23,hx23,ht22⟩:=bS ht22;refine TL.op1 (OpR.shvM hx23 rfl rfl) rfl ?_;iterate 2 refine aA rfl rfl ?_
 refine aN rfl ?_;rcases ite_some ht22 with ⟨c24,ht22⟩|⟨c24,ht22⟩
 ·refine T.condT rfl (beq_iff_eq.2 c24) ?_;refine T.exit ?_;obtain rfl:=osi ht22;exact⟨_,Gst.only [1,4,5,6,7,8,9,10,12] rfl,rfl⟩
 refine T.condF rfl (beq_eq_false_iff_ne.2 c24) ?_;refine aK rfl ?_;refine aS ?_;refine TL.op1 (OpR.loadPtr 2 rfl rfl rfl rfl) rfl ?_;refine aA rfl rfl ?_;obtain⟨x25,hx25,ht22⟩:=bS ht22;refine TL.op1 (OpR.call0 fn24 (grid_Grid_Row_c hx25) rfl) rfl ?_;iterate 3 refine aA rfl rfl ?_
 refine TL.op (OpR.alloc rfl rfl (fun _=>rfl)) rfl (fun p26=>?_);refine TL.op0 (OpR.store 6 rfl rfl rfl rfl rfl rfl rfl rfl) ?_;refine aA rfl rfl ?_;refine aN rfl ?_;refine T.seq ?_;obtain⟨x28,hx28,ht22⟩:=bS ht22;obtain⟨x29,hx29,ht22⟩:=bS ht22;refine T.drawS drawsX (fun env27=>[.agg [(eOP s10.2.1),dT s10.2.2.1,dN s10.2.2.2.1],dN s10.1,.agg [.sl 5 (List.map e_cell_Cell x25.1.fCells),dN x25.1.fEnd,dT x25.1.fHidden],.agg [.sl 5 (List.map e_cell_Cell x28.fCells),dN x28.fEnd,dT x28.fHidden],.tup [.agg [(eOP x29.1.fRows.fRoot),dT x29.1.fTail,dN x29.1.fEnd],dN x29.2],.tup [.agg [(eOP x29.1.fRows.fRoot),dT x29.1.fTail,dN x29.1.fEnd],dN x29.2],.agg [(eOP x29.1.fRows.fRoot),dT x29.1.fTail,dN x29.1.fEnd],dN x29.2,.dead]) (fun D env27=>[.var (blk p1) [(eOP none),dT false,dN 0] 27,.var (blk p2) [.val (.slice none 0 0),dT false,dN 0] 31,(bif D 8 then .var (blk p6) [(eOP x29.1.fRows.fRoot),dT x29.1.fTail,dN x29.1.fEnd] 27 else .var (blk p6) [(eOP s10.2.1),dT s10.2.2.1,dN s10.2.2.2.1] 27),.var (blk (vn w5 0)) [.val (vn w5 1)] 264,.var (blk p7) [.sl 3 (List.map e_ref08_Row s10.2.2.2.2.1),dT s10.2.2.2.2.2.1,dN s10.2.2.2.2.2.2] 31,.row (vn w5 1) (lB x4.2.2.2) 1 5,.var (blk p26) [.sl 5 (List.map e_cell_Cell x25.1.fCells),dN x25.1.fEnd,dT x25.1.fHidden] 49]) [0,0,0,4,15,31,63,63,127] [1,4,5,6,7,8,9,10,12] _ (by decide +kernel) (by decide +kernel) (fun _=>rfl) (fun _=>rfl) ?_ (fun _=>rfl) (fun _=>rfl) ?_;rotate_left
 ·intro env27;show T X _ _ _;refine aS ?_;refine aA rfl rfl ?_;refine TL.op1 (OpR.loadPtr 4 rfl rfl rfl rfl) rfl ?_;refine aA rfl rfl ?_;obtain⟨x30,hx30,ht22⟩:=bS ht22;refine TL.op1 (OpR.indexM e_ref08_Row hx30 rfl rfl rfl rfl rfl) rfl ?_;refine aA rfl rfl ?_;refine TL.op (OpR.alloc rfl rfl (fun _=>rfl)) rfl (fun p31=>?_);refine TL.op0 (OpR.store 7 rfl rfl rfl rfl rfl rfl rfl rfl) ?_;refine aN rfl ?_;refine aS ?_;refine aA rfl rfl ?_;refine TL.op0 (OpR.store 7 rfl rfl rfl rfl rfl rfl rfl rfl) ?_;refine aN rfl ?_;refine T.region ?_;refine TL.op1 (OpR.loadPtr 4 rfl rfl rfl rfl) rfl ?_;refine aA rfl rfl ?_;refine TL.op1 (OpR.loadPtr 7 rfl rfl rfl rfl) rfl ?_;obtain⟨x32,hx32,ht22⟩:=bS ht22;refine TL.op1 (OpR.call0 fn103 (ref11_Put_c hx32) rfl) rfl ?_;iterate 3 refine aA rfl rfl ?_
  refine TL.op0 (OpR.store 4 rfl rfl rfl rfl rfl rfl rfl rfl) ?_;refine TL.nil ?_;obtain rfl:=osi ht22;exact⟨_,gP [1,4,5,6,7,8,9,10,12] [0,1,2,3,4,5] rfl rfl rfl,rfl⟩
 refine OpsS.cons' true ?_ (fun _ _ _ _ _ _ _=>rfl) ?_
 ·intro D env27 hA;have e8:D 8=false:=hA.no 8 _ rfl rfl;exact OpS.yp [(8,false)] ⟨e8,trivial⟩ (Want.plain rfl) (OpR.loadPtr 2 rfl rfl rfl rfl) (fun x=>rfl) (fun x=>rfl)
 refine aC ?_;refine oT (.agg [.sl 5 (List.map e_cell_Cell x25.1.fCells),dN x25.1.fEnd,dT x25.1.fHidden]) (fun _ _=>OpR.loadPtr 6 rfl rfl rfl rfl) ?_;refine oT (.agg [.sl 5 (List.map e_cell_Cell x28.fCells),dN x28.fEnd,dT x28.fHidden]) (fun _ _=>OpR.call0 fn121 (row_Row_Hide_c hx28) rfl) ?_;refine oT (.tup [.agg [(eOP x29.1.fRows.fRoot),dT x29.1.fTail,dN x29.1.fEnd],dN x29.2]) (fun _ _=>OpR.call0 fn120 (grid_Grid_Put_c hx29) rfl) ?_;iterate 3 refine aC ?_
 refine OpsS.cons' true ?_ (fun _ _ _ _ _ _ _=>rfl) ?_
 ·intro D env27 hA;exact OpS.yp [(8,false)] ⟨hA.me,trivial⟩ (Want.plain rfl) (OpR.store 2 rfl rfl rfl rfl rfl rfl rfl rfl) (fun x=>rfl) (fun x=>rfl)
 exact trivial
theorem law16_Hide_cx1 {a0:List UInt8} {a1:Int} {res:grid_Grid × ref11_Grid × Bool × (List UInt8)} (h0:law16_Hide a0 a1=some (Sum.inl res)):CallF X 49 [.val (.string (bs a0)),.val (.int .u64 a1)] [] (fun x=>.tup [.agg [(eOP res.1.fRows.fRoot),dT res.1.fTail,dN res.1.fEnd],dP (blk (vn x 0)),.agg [.sl 3 (List.map e_ref08_Row res.2.1.fRows),dT res.2.1.fTail,dN res.2.1.fEnd],dT res.2.2.1]) (fun x=>[.var (blk (vn x 0)) [.val (vn x 1)] 264,.row (vn x 1) (lB res.2.2.2) 1 5]):=law16_Hide_c h0
theorem law16_Hide_cx2 {a0:List UInt8} {a1:Int} {res:grid_Grid × ref11_Grid} (h0:law16_Hide a0 a1=some (Sum.inr res)):CallF X 49 [.val (.string (bs a0)),.val (.int .u64 a1)] [] (fun x=>.tup [.agg [(eOP res.1.fRows.fRoot),dT res.1.fTail,dN res.1.fEnd],dQ,.agg [.sl 3 (List.map e_ref08_Row res.2.fRows),dT res.2.fTail,dN res.2.fEnd],dT false]) (fun x=>[]):=law16_Hide_c h0
noncomputable def law18_mine (a0:ref18_Test):Option filter_Test:=
 some (⟨a0.fCol,a0.fOp,a0.fArg,a0.fNot⟩:filter_Test)
theorem law18_mine_c {a0:ref18_Test} {res:filter_Test} (h0:law18_mine a0=some res):CallF X 34 [.agg [dN a0.fCol,dN a0.fOp,.val (.string (bs a0.fArg)),dT a0.fNot]] [] (fun x=>.agg [dN res.fCol,dN res.fOp,.val (.string (bs res.fArg)),dT res.fNot]) (fun x=>[]):=by
 unfold law18_mine at h0;refine CallF.mkG (X:=X) rfl Tryz.func34 rfl rfl Tryz.ntmps34 rfl rfl ?_;refine aS ?_;refine TL.op1 (OpR.boxImm rfl rfl) rfl ?_;refine TL.op (OpR.alloc rfl rfl (fun _=>rfl)) rfl (fun p1=>?_);refine aN rfl ?_;refine aS ?_;iterate 8 refine aA rfl rfl ?_
 refine TL.op1 (OpR.build rfl rfl rfl rfl rfl) rfl ?_;refine TL.op0 (OpR.store 0 rfl rfl rfl rfl rfl rfl rfl rfl) ?_;refine aN rfl ?_;refine T.ret ?_;obtain rfl:=osi h0;exact rO [] [2] rfl undef (cV 0 rfl rfl rfl rfl ResL.nil) rfl rfl rfl rfl
noncomputable def law18_few.l1 (a0:List ref18_Test) (s6:Int × (List filter_Test) × (List ref18_Test)):Option (Lp (Int × (List filter_Test) × (List ref18_Test)) ((List filter_Test) × (List ref18_Test))):=
 if s6.1<(a0.length:Int) then
 bnd (idx a0 s6.1) fun x15=>
 bnd (if s6.1<4 then
 bnd (law11_Cut x15.fArg 110) fun x21=>
 bnd (law18_mine (⟨x15.fCol,x15.fOp,x21,x15.fNot⟩:ref18_Test)) fun x22=>
 bnd (app 40 s6.2.1 [x22]) fun x23=>
 bnd (app 40 s6.2.2 [(⟨x15.fCol,x15.fOp,x21,x15.fNot⟩:ref18_Test)]) fun x25=>
 some (x23,x25)
else
 some (s6.2.1,s6.2.2):Option ((List filter_Test) × (List ref18_Test))) fun t17=>
 some (Lp.next (w64 (s6.1+1),t17.1,t17.2))
else
 some (Lp.done (s6.2.1,s6.2.2))
noncomputable def law18_few (a0:List ref18_Test):Option ((List filter_Test) × (List ref18_Test)):=
 bnd (loop (law18_few.l1 a0) (0,[],[]):Option ((List filter_Test) × (List ref18_Test))) fun t1=>
 some (t1.1,t1.2)
theorem law18_few_c {a0:List ref18_Test} {res:(List filter_Test) × (List ref18_Test)} (h0:law18_few a0=some res):CallF X 46 [.sl 4 (List.map e_ref18_Test a0)] [] (fun x=>.tup [.sl 4 (List.map e_filter_Test res.1),.sl 4 (List.map e_ref18_Test res.2)]) (fun x=>[]):=by
 unfold law18_few at h0;refine CallF.mkG (X:=X) rfl Tryz.func46 rfl rfl Tryz.ntmps46 rfl rfl ?_;refine aS ?_;iterate 2 refine aA rfl rfl ?_
 refine aN rfl ?_;refine aS ?_;refine aA rfl rfl ?_;refine aN rfl ?_;refine aS ?_;refine aA rfl rfl ?_;refine aN rfl ?_;refine T.seq ?_;refine aS ?_;refine aA rfl rfl ?_;refine TL.op1 (OpR.cast (OpR.pure rfl) (intE (lenM _ _))) rfl ?_;refine aA rfl rfl ?_;refine aN rfl ?_;obtain⟨t1,ht1,h0⟩:=bS h0;refine T.cutC (fun S'=>∃ y2:Value,∃ y3:Value,S'=⟨[(5,.val y3),(4,.val y2),(3,.val (.slice none 0 0)),(2,.val (.slice none 0 0))],[.row y2 (List.map e_filter_Test t1.1) 4 65,.row y3 (List.map e_ref18_Test t1.2) 4 64],33⟩) (fun _ h=>h) ?_ ?_;rotate_left
 ·rintro _ ⟨y2,y3,rfl⟩;show T X _ _ _;refine aS ?_;iterate 4 refine aA rfl rfl ?_
  refine aN rfl ?_;refine T.ret ?_;obtain rfl:=osi h0;exact PostG.retP (ks:=[]) (Gst.trans (Gst.only [2,3] rfl) (Gst.trans (Gst.freezeRow 0 rfl rfl (ReS.cons Re.refl (ReS.cons (Re.base .all) ReS.nil)) (ReO.same (ReO.same ReO.nil))) (Gst.trans (Gst.freezeRow 1 rfl rfl (ReS.cons (Re.base .all) (ReS.cons Re.refl ReS.nil)) (ReO.same (ReO.same ReO.nil))) (Gst.pick [] rfl rfl)))) undef (cT rfl (cT rfl ResL.nil)) rfl rfl rfl rfl
 refine T.block ?_;obtain⟨n7,n12⟩:=loop_some ht1;refine T.loop (fun n S'=>∃ S'',Gst S' S''∧∃ y4:Value,∃ y5:Value,∃ s6:Int × (List filter_Test) × (List ref18_Test),S''=⟨[(10,(dN s6.1)),(9,(dN (a0.length:Int))),(8,.sl 4 (List.map e_ref18_Test a0)),(5,.val y5),(4,.val y4),(3,.val (.slice none 0 0)),(2,.val (.slice none 0 0))],[.row y4 (List.map e_filter_Test s6.2.1) 4 65,.row y5 (List.map e_ref18_Test s6.2.2) 4 64],33⟩∧iter (law18_few.l1 a0) n s6=some t1) n7 ?_ ?_
 ·exact⟨_,Gst.trans (Gst.only [2,3,4,5,8,9,10] rfl) (Gst.trans (Gst.nilRow (ow:=[]) 4 65 rfl) (Gst.nilRow (ow:=[.row (.slice none 0 0) (List.map e_filter_Test []) 4 65]) 4 64 rfl)),(.slice none 0 0),(.slice none 0 0),(0,[],[]),rfl,n12⟩
 rintro n7 _ ⟨_,g,y4,y5,s6,rfl,i11⟩;refine T.ghost g ?_;obtain⟨m8,q9,rfl,q10,i11⟩:=iter_succ i11;unfold law18_few.l1 at q10;refine aS ?_;refine aA rfl rfl ?_;refine aN rfl ?_;refine T.seq ?_;rcases ite_some q10 with ⟨c14,q10⟩|⟨c14,q10⟩;rotate_left
 ·refine T.condF rfl (eF c14) ?_;refine T.exit ?_;obtain rfl:=osi q10;obtain rfl:_=_:=i11;exact⟨_,Gst.only [2,3,4,5] rfl,y4,y5,rfl⟩
 refine T.condT rfl (eT c14) ?_;refine aK rfl ?_;refine T.seq ?_;refine T.block ?_;refine aS ?_;refine aA rfl rfl ?_;obtain⟨x15,hx15,q10⟩:=bS q10;refine TL.op1 (OpR.indexM e_ref18_Test hx15 rfl rfl rfl rfl rfl) rfl ?_;refine aA rfl rfl ?_;refine TL.op (OpR.alloc rfl rfl (fun _=>rfl)) rfl (fun p16=>?_);refine aA rfl rfl ?_;refine TL.op0 (OpR.store 2 rfl rfl rfl rfl rfl rfl rfl rfl) ?_;refine aN rfl ?_;refine aS ?_;iterate 2 refine aA rfl rfl ?_
 refine aN rfl ?_;obtain⟨t17,ht17,q10⟩:=bS q10;refine T.cutC (fun S'=>∃ y18:Value,∃ y19:Value,S'=⟨[(10,(dN s6.1)),(9,(dN (a0.length:Int))),(8,.sl 4 (List.map e_ref18_Test a0)),(5,.val y19),(4,.val y18),(3,.val (.slice none 0 0)),(2,.val (.slice none 0 0))],[.row y18 (List.map e_filter_Test t17.1) 4 65,.row y19 (List.map e_ref18_Test t17.2) 4 64],33⟩) (fun _ h=>h) ?_ ?_;rotate_left
 ·rintro _ ⟨y18,y19,rfl⟩;show T X _ _ _;refine T.region ?_;iterate 2 refine aA rfl rfl ?_
  refine TL.nil ?_;obtain rfl:=osi q10;exact⟨m8,Nat.lt_succ_self _,_,Gst.only [2,3,4,5,8,9,10] rfl,y18,y19,(w64 (s6.1+1),t17.1,t17.2),rfl,i11⟩
 rcases ite_some ht17 with ⟨c20,ht17⟩|⟨c20,ht17⟩;rotate_left
 ·refine T.condF rfl (eF c20) ?_;refine T.skip ?_;obtain rfl:=osi ht17;exact⟨_,gP [2,3,4,5,8,9,10] [0,1] rfl rfl rfl,y4,y5,rfl⟩
 refine T.condT rfl (eT c20) ?_;refine aS ?_;refine aA rfl rfl ?_;refine TL.op1 (OpR.loadPtr 2 rfl rfl rfl rfl) rfl ?_;obtain⟨x21,hx21,ht17⟩:=bS ht17;refine TL.op1 (OpR.call0 fn15 (law11_Cut_c hx21) rfl) rfl ?_;refine aA rfl rfl ?_;refine TL.op0 (OpR.store 2 rfl rfl rfl rfl rfl rfl rfl rfl) ?_;refine aN rfl ?_;refine aS ?_;refine aA rfl rfl ?_;refine TL.op1 (OpR.loadPtr 2 rfl rfl rfl rfl) rfl ?_;obtain⟨x22,hx22,ht17⟩:=bS ht17;refine TL.op1 (OpR.call0 fn34 (law18_mine_c hx22) rfl) rfl ?_;refine TL.op1 (OpR.lit rfl rfl rfl rfl rfl rfl rfl) rfl ?_;obtain⟨x23,hx23,ht17⟩:=bS ht17;refine TL.op (OpR.appendM (m:=[x22]) e_filter_Test 0 hx23 rfl rfl rfl rfl rfl rfl rfl rfl rfl (fun _=>rfl)) rfl (fun v24=>?_);refine aA rfl rfl ?_;refine aN rfl ?_;refine T.region ?_;refine aA rfl rfl ?_;refine TL.op1 (OpR.loadPtr 2 rfl rfl rfl rfl) rfl ?_;refine TL.op1 (OpR.lit rfl rfl rfl rfl rfl rfl rfl) rfl ?_;obtain⟨x25,hx25,ht17⟩:=bS ht17;refine TL.op (OpR.appendM (m:=[(⟨x15.fCol,x15.fOp,x21,x15.fNot⟩:ref18_Test)]) e_ref18_Test 1 hx25 rfl rfl rfl rfl rfl rfl rfl rfl rfl (fun _=>rfl)) rfl (fun v26=>?_);refine aA rfl rfl ?_;refine TL.nil ?_;obtain rfl:=osi ht17;exact⟨_,gP [2,3,4,5,8,9,10] [0,1] rfl rfl rfl,v24,v26,rfl⟩
noncomputable def filter_Right (a0:filter_Test):Option Bool:=
 bnd (if a0.fCol<0 then
 some true
else
 some (decide (a0.fCol≥40)):Option Bool) fun t1=>
 if t1=true then
 some false
else
 bnd (if a0.fOp<0 then
 some true
else
 some (decide (a0.fOp>6)):Option Bool) fun t4=>
 if t4=true then
 some false
else
 bnd (if (a0.fArg.length:Int)>100 then
 some true
else
 bnd (sAnyCRLF a0.fArg) fun x9=>
 some x9:Option Bool) fun t7=>
 if t7=true then
 some false
else
 bnd (if a0.fOp=6 then
 some (a0.fArg==[])
else
 some true:Option Bool) fun t11=>
 some t11
theorem filter_Right_c {a0:filter_Test} {res:Bool} (h0:filter_Right a0=some res):CallF X 33 [.agg [dN a0.fCol,dN a0.fOp,.val (.string (bs a0.fArg)),dT a0.fNot]] [] (fun x=>(dT res)) (fun x=>[]):=by
 unfold filter_Right at h0;refine CallF.mkG (X:=X) rfl Tryz.func33 rfl rfl Tryz.ntmps33 rfl rfl ?_;refine aS ?_;refine TL.op1 (OpR.boxImm rfl rfl) rfl ?_;refine aA rfl rfl ?_;refine aN rfl ?_;refine T.seq ?_;refine T.block ?_;refine T.seq ?_;obtain⟨t1,ht1,h0⟩:=bS h0;refine T.cutC (fun S'=>S'=⟨[(3,(dT t1)),(2,(dT false)),(1,.nod [dN a0.fCol,dN a0.fOp,.val (.string (bs a0.fArg)),dT a0.fNot])],[],39⟩) (fun _ h=>h) ?_ ?_
 ·refine T.region ?_;iterate 4 refine aA rfl rfl ?_
  rcases ite_some ht1 with ⟨c2,ht1⟩|⟨c2,ht1⟩
  ·refine TL.off rfl rfl rfl rfl (eT c2) rfl rfl ?_;refine TL.off rfl rfl rfl rfl (eT c2) rfl rfl ?_;refine TL.off rfl rfl rfl rfl (eT c2) rfl rfl ?_;refine TL.op1 (OpR.pickT rfl (eT c2) rfl) rfl ?_;refine aA rfl rfl ?_;refine TL.nil ?_;obtain rfl:=osi ht1;exact⟨_,Gst.only [1,2,3] rfl,rfl⟩
  refine TL.on rfl rfl rfl rfl (eF c2) ?_;refine aA rfl rfl ?_;refine TL.on rfl rfl rfl rfl (eF c2) ?_;refine aA rfl rfl ?_;refine TL.on rfl rfl rfl rfl (eF c2) ?_;refine aA rfl rfl ?_;refine TL.op1 (OpR.pickF rfl (eF c2) rfl) rfl ?_;refine aA rfl rfl ?_;refine TL.nil ?_;obtain rfl:=osi ht1;exact⟨_,Gst.only [1,2,3] rfl,rfl⟩
 rintro _ rfl;show T X _ _ _;rcases ite_some h0 with ⟨c3,h0⟩|⟨c3,h0⟩
 ·refine T.condT rfl (c3) ?_;refine aS ?_;refine aA rfl rfl ?_;refine aN rfl ?_;refine T.ret ?_;obtain rfl:=osi h0;exact rO [] [2] rfl undef (cT rfl ResL.nil) rfl rfl rfl rfl
 refine T.condF rfl (eq_false_of_ne_true c3) ?_;refine T.seq ?_;obtain⟨t4,ht4,h0⟩:=bS h0;refine T.cutC (fun S'=>S'=⟨[(12,(dT t4)),(2,(dT false)),(1,.nod [dN a0.fCol,dN a0.fOp,.val (.string (bs a0.fArg)),dT a0.fNot])],[],39⟩) (fun _ h=>h) ?_ ?_
 ·refine T.region ?_;iterate 4 refine aA rfl rfl ?_
  rcases ite_some ht4 with ⟨c5,ht4⟩|⟨c5,ht4⟩
  ·refine TL.off rfl rfl rfl rfl (eT c5) rfl rfl ?_;refine TL.off rfl rfl rfl rfl (eT c5) rfl rfl ?_;refine TL.off rfl rfl rfl rfl (eT c5) rfl rfl ?_;refine TL.op1 (OpR.pickT rfl (eT c5) rfl) rfl ?_;refine aA rfl rfl ?_;refine TL.nil ?_;obtain rfl:=osi ht4;exact⟨_,Gst.only [1,2,12] rfl,rfl⟩
  refine TL.on rfl rfl rfl rfl (eF c5) ?_;refine aA rfl rfl ?_;refine TL.on rfl rfl rfl rfl (eF c5) ?_;refine aA rfl rfl ?_;refine TL.on rfl rfl rfl rfl (eF c5) ?_;refine aA rfl rfl ?_;refine TL.op1 (OpR.pickF rfl (eF c5) rfl) rfl ?_;refine aA rfl rfl ?_;refine TL.nil ?_;obtain rfl:=osi ht4;exact⟨_,Gst.only [1,2,12] rfl,rfl⟩
 rintro _ rfl;show T X _ _ _;rcases ite_some h0 with ⟨c6,h0⟩|⟨c6,h0⟩
 ·refine T.condT rfl (c6) ?_;refine aS ?_;refine aA rfl rfl ?_;refine aN rfl ?_;refine T.ret ?_;obtain rfl:=osi h0;exact rO [] [2] rfl undef (cT rfl ResL.nil) rfl rfl rfl rfl
 refine T.condF rfl (eq_false_of_ne_true c6) ?_;refine T.seq ?_;obtain⟨t7,ht7,h0⟩:=bS h0;refine T.cutC (fun S'=>S'=⟨[(21,(dT t7)),(2,(dT false)),(1,.nod [dN a0.fCol,dN a0.fOp,.val (.string (bs a0.fArg)),dT a0.fNot])],[],39⟩) (fun _ h=>h) ?_ ?_
 ·refine T.region ?_;iterate 2 refine aA rfl rfl ?_
  refine TL.op1 (OpR.cast (OpR.pure rfl) (intE (lenS _))) rfl ?_;iterate 2 refine aA rfl rfl ?_
  rcases ite_some ht7 with ⟨c8,ht7⟩|⟨c8,ht7⟩
  ·refine TL.off rfl rfl rfl rfl (eT c8) rfl rfl ?_;refine TL.off rfl rfl rfl rfl (eT c8) rfl rfl ?_;refine TL.off rfl rfl rfl rfl (eT c8) rfl rfl ?_;refine TL.op1 (OpR.pickT rfl (eT c8) rfl) rfl ?_;refine aA rfl rfl ?_;refine TL.nil ?_;obtain rfl:=osi ht7;exact⟨_,Gst.only [1,2,21] rfl,rfl⟩
  refine TL.on rfl rfl rfl rfl (eF c8) ?_;refine aA rfl rfl ?_;refine TL.on rfl rfl rfl rfl (eF c8) ?_;refine aA rfl rfl ?_;refine TL.on rfl rfl rfl rfl (eF c8) ?_;obtain⟨x9,hx9,ht7⟩:=bS ht7;refine TL.op1 (OpR.strAnyCRLF (ρ:=smRen) (f:=95) smLay2 smSet rfl fn95 (l:=a0.fArg) hx9 rfl rfl) rfl ?_;refine TL.op1 (OpR.pickF rfl (eF c8) rfl) rfl ?_;refine aA rfl rfl ?_;refine TL.nil ?_;obtain rfl:=osi ht7;exact⟨_,Gst.only [1,2,21] rfl,rfl⟩
 rintro _ rfl;show T X _ _ _;rcases ite_some h0 with ⟨c10,h0⟩|⟨c10,h0⟩
 ·refine T.condT rfl (c10) ?_;refine aS ?_;refine aA rfl rfl ?_;refine aN rfl ?_;refine T.ret ?_;obtain rfl:=osi h0;exact rO [] [2] rfl undef (cT rfl ResL.nil) rfl rfl rfl rfl
 refine T.condF rfl (eq_false_of_ne_true c10) ?_;refine aK rfl ?_;refine T.seq ?_;obtain⟨t11,ht11,h0⟩:=bS h0;refine T.cutC (fun S'=>S'=⟨[(2,(dT t11))],[],39⟩) (fun _ h=>h) ?_ ?_;rotate_left
 ·rintro _ rfl;show T X _ _ _;refine T.ret ?_;obtain rfl:=osi h0;exact rO [] [2] rfl undef (cT rfl ResL.nil) rfl rfl rfl rfl
 refine T.region ?_;iterate 4 refine aA rfl rfl ?_
 rcases ite_some ht11 with ⟨c12,ht11⟩|⟨c12,ht11⟩;rotate_left
 ·refine TL.off rfl rfl rfl rfl (not_f (beq_eq_false_iff_ne.2 c12)) rfl rfl ?_;refine TL.off rfl rfl rfl rfl (not_f (beq_eq_false_iff_ne.2 c12)) rfl rfl ?_;refine TL.off rfl rfl rfl rfl (not_f (beq_eq_false_iff_ne.2 c12)) rfl rfl ?_;refine TL.op1 (OpR.pickT rfl (not_f (beq_eq_false_iff_ne.2 c12)) rfl) rfl ?_;refine aA rfl rfl ?_;refine TL.nil ?_;obtain rfl:=osi ht11;exact⟨_,Gst.only [2] rfl,rfl⟩
 refine TL.on rfl rfl rfl rfl (not_t (beq_iff_eq.2 c12)) ?_;refine aA rfl rfl ?_;refine TL.on rfl rfl rfl rfl (not_t (beq_iff_eq.2 c12)) ?_;refine aA rfl rfl ?_;refine TL.on rfl rfl rfl rfl (not_t (beq_iff_eq.2 c12)) ?_;refine TL.op1 (OpR.cast (OpR.pure rfl) (boolE (strEq _ _))) rfl ?_;refine TL.op1 (OpR.pickF rfl (not_t (beq_iff_eq.2 c12)) rfl) rfl ?_;refine aA rfl rfl ?_;refine TL.nil ?_;obtain rfl:=osi ht11;exact⟨_,Gst.only [2] rfl,rfl⟩
noncomputable def filter_wrong.l1 (a0:List filter_Test) (s3:Int):Option (Lp Int (Ex Unit Bool)):=
 if s3<(a0.length:Int) then
 bnd (idx a0 s3) fun x12=>
 bnd (filter_Right x12) fun x14=>
 if x14=true then
 some (Lp.next (w64 (s3+1)))
else
 some (Lp.done (Ex.ret true))
else
 some (Lp.done (Ex.brk ()))
noncomputable def filter_wrong (a0:List filter_Test):Option Bool:=
 bnd (loop (filter_wrong.l1 a0) 0:Option (Ex Unit Bool)) fun t1=>match t1 with
| .brk u2=>
 some false
| .ret u2=>some u2
theorem filter_wrong_c {a0:List filter_Test} {res:Bool} (h0:filter_wrong a0=some res):CallF X 115 [.sl 4 (List.map e_filter_Test a0)] [] (fun x=>(dT res)) (fun x=>[]):=by
 unfold filter_wrong at h0;refine CallF.mkG (X:=X) rfl Tryz.func115 rfl rfl Tryz.ntmps115 rfl rfl ?_;refine aS ?_;refine aA rfl rfl ?_;refine aN rfl ?_;refine T.seq ?_;refine aS ?_;refine aA rfl rfl ?_;refine TL.op1 (OpR.cast (OpR.pure rfl) (intE (lenM _ _))) rfl ?_;refine aA rfl rfl ?_;refine aN rfl ?_;obtain⟨t1,ht1,h0⟩:=bS h0;refine T.cutC (fun S'=>∃ u2,t1=Ex.brk u2∧S'=⟨[(2,(dT false))],[],15⟩) (fun _ h=>h) ?_ ?_;rotate_left
 ·rintro _ ⟨u2,rfl,rfl⟩;show T X _ _ _;refine aS ?_;refine aA rfl rfl ?_;refine aN rfl ?_;refine T.ret ?_;obtain rfl:=osi h0;exact rO [] [2] rfl undef (cT rfl ResL.nil) rfl rfl rfl rfl
 refine T.block ?_;obtain⟨n4,n9⟩:=loop_some ht1;refine T.loop (fun n S'=>∃ S'',Gst S' S''∧∃ s3:Int,S''=⟨[(7,(dN s3)),(6,(dN (a0.length:Int))),(5,.sl 4 (List.map e_filter_Test a0)),(2,(dT false))],[],15⟩∧iter (filter_wrong.l1 a0) n s3=some t1) n4 ?_ ?_
 ·exact⟨_,Gst.only [2,5,6,7] rfl,0,rfl,n9⟩
 rintro n4 _ ⟨_,g,s3,rfl,i8⟩;refine T.ghost g ?_;obtain⟨m5,q6,rfl,q7,i8⟩:=iter_succ i8;unfold filter_wrong.l1 at q7;refine aS ?_;refine aA rfl rfl ?_;refine aN rfl ?_;refine T.seq ?_;rcases ite_some q7 with ⟨c11,q7⟩|⟨c11,q7⟩;rotate_left
 ·refine T.condF rfl (eF c11) ?_;refine T.exit ?_;obtain rfl:=osi q7;obtain rfl:_=_:=i8;exact⟨_,Gst.only [2] rfl,_,rfl,rfl⟩
 refine T.condT rfl (eT c11) ?_;refine aK rfl ?_;refine T.seq ?_;refine T.block ?_;refine aS ?_;obtain⟨x12,hx12,q7⟩:=bS q7;refine TL.op1 (OpR.indexM e_filter_Test hx12 rfl rfl rfl rfl rfl) rfl ?_;refine aA rfl rfl ?_;refine TL.op (OpR.alloc rfl rfl (fun _=>rfl)) rfl (fun p13=>?_);refine TL.op0 (OpR.store 0 rfl rfl rfl rfl rfl rfl rfl rfl) ?_;refine aN rfl ?_;refine aS ?_;refine TL.op1 (OpR.loadPtr 0 rfl rfl rfl rfl) rfl ?_;obtain⟨x14,hx14,q7⟩:=bS q7;refine TL.op1 (OpR.call0 fn33 (filter_Right_c hx14) rfl) rfl ?_;refine aA rfl rfl ?_;refine aN rfl ?_;rcases ite_some q7 with ⟨c15,q7⟩|⟨c15,q7⟩
 ·refine T.condF rfl (not_t (c15)) ?_;refine aK rfl ?_;refine T.region ?_;iterate 2 refine aA rfl rfl ?_
  refine TL.nil ?_;obtain rfl:=osi q7;exact⟨m5,Nat.lt_succ_self _,_,gP [2,5,6,7] [] rfl rfl rfl,w64 (s3+1),rfl,i8⟩
 refine T.condT rfl (not_f (eq_false_of_ne_true c15)) ?_;refine aS ?_;refine aA rfl rfl ?_;refine aN rfl ?_;refine T.ret ?_;obtain rfl:=osi q7;obtain rfl:_=_:=i8;obtain rfl:=osi h0;exact rP [] [2] [] rfl rfl rfl undef (cT rfl ResL.nil) rfl rfl rfl rfl
noncomputable def walk_stretch_row_Row (a0:tTr) (a1:Int) (a2:Int):Option (Int × Int):=
 bnd (tree_Tree_row_Row_Len a0) fun x1=>
 bnd (some (if x1<(if 0>a1 then 0 else a1) then x1 else (if 0>a1 then 0 else a1))) fun x2=>
 bnd (tree_Tree_row_Row_Len a0) fun x3=>
 bnd (some (if x3<(if x2>a2 then x2 else a2) then x3 else (if x2>a2 then x2 else a2))) fun x4=>
 some (x2,x4)
theorem walk_stretch_row_Row_c {a0:tTr} {a1:Int} {a2:Int} {res:Int × Int} (h0:walk_stretch_row_Row a0 a1 a2=some res):CallF X 145 [.agg [(eOP a0.fRoot)],dN a1,dN a2] [] (fun x=>.tup [dN res.1,dN res.2]) (fun x=>[]):=by
 unfold walk_stretch_row_Row at h0;refine CallF.mkG (X:=X) rfl Tryz.func145 rfl rfl Tryz.ntmps145 rfl rfl ?_;refine aS ?_;refine TL.op1 (OpR.boxImm rfl rfl) rfl ?_;iterate 2 refine aA rfl rfl ?_
 refine aN rfl ?_;refine aS ?_;iterate 3 refine aA rfl rfl ?_
 obtain⟨x1,hx1,h0⟩:=bS h0;refine TL.op1 (OpR.call0 fn79 (tree_Tree_row_Row_Len_c hx1) rfl) rfl ?_;obtain⟨x2,hx2,h0⟩:=bS h0;refine TL.op1 (OpR.cast (OpR.pure rfl) (intE (osi hx2))) rfl ?_;refine aA rfl rfl ?_;refine aN rfl ?_;refine aS ?_;iterate 5 refine aA rfl rfl ?_
 obtain⟨x3,hx3,h0⟩:=bS h0;refine TL.op1 (OpR.call0 fn79 (tree_Tree_row_Row_Len_c hx3) rfl) rfl ?_;obtain⟨x4,hx4,h0⟩:=bS h0;refine TL.op1 (OpR.cast (OpR.pure rfl) (intE (osi hx4))) rfl ?_;iterate 2 refine aA rfl rfl ?_
 refine aN rfl ?_;refine T.ret ?_;obtain rfl:=osi h0;exact rO [] [6,7] rfl undef (cT rfl (cT rfl ResL.nil)) rfl rfl rfl rfl
noncomputable def walk_Range_row_Row (a0:tTr) (a1:Int) (a2:Int):Option (Int × Int × (Option NP)):=
 bnd (walk_stretch_row_Row a0 a1 a2) fun x4=>
 some (x4.1,x4.2,a0.fRoot)
theorem walk_Range_row_Row_c {a0:tTr} {a1:Int} {a2:Int} {res:Int × Int × (Option NP)} (h0:walk_Range_row_Row a0 a1 a2=some res):CallF X 80 [.agg [(eOP a0.fRoot)],dN a1,dN a2] [] (fun x=>.fn (.func 146) [] [dP (blk (vn x 0)),dP (blk (vn x 1)),dP (blk (vn x 2))]) (fun x=>[.var (blk (vn x 0)) [dN res.1] 3,.var (blk (vn x 1)) [dN res.2.1] 3,.var (blk (vn x 2)) [(eOP res.2.2)] 25]):=by
 unfold walk_Range_row_Row at h0;refine CallF.mkG (X:=X) rfl Tryz.func80 rfl rfl Tryz.ntmps80 rfl rfl ?_;refine aS ?_;refine TL.op (OpR.boxVar rfl rfl (fun _=>rfl)) rfl (fun p1=>?_);refine TL.op (OpR.boxVar rfl rfl (fun _=>rfl)) rfl (fun p2=>?_);refine TL.op (OpR.boxVar rfl rfl (fun _=>rfl)) rfl (fun p3=>?_);refine aA rfl rfl ?_;refine aN rfl ?_;refine aS ?_;refine TL.op1 (OpR.loadPtr 0 rfl rfl rfl rfl) rfl ?_;refine TL.op1 (OpR.loadPtr 1 rfl rfl rfl rfl) rfl ?_;refine TL.op1 (OpR.loadPtr 2 rfl rfl rfl rfl) rfl ?_;obtain⟨x4,hx4,h0⟩:=bS h0;refine TL.op1 (OpR.call0 fn145 (walk_stretch_row_Row_c hx4) rfl) rfl ?_;iterate 3 refine aA rfl rfl ?_
 refine TL.op0 (OpR.store 1 rfl rfl rfl rfl rfl rfl rfl rfl) ?_;refine TL.op0 (OpR.store 2 rfl rfl rfl rfl rfl rfl rfl rfl) ?_;refine aN rfl ?_;refine aS ?_;iterate 2 refine aA rfl rfl ?_
 refine aN rfl ?_;refine T.ret ?_;obtain rfl:=osi h0;exact rP [0,1,2] [6] [1,2,0] rfl rfl rfl (.tuple #[p2,p3,p1]) (cT rfl ResL.nil) rfl rfl rfl rfl
noncomputable def tree_Tree_row_Row_Root (a0:tTr):Option (Unit ⊕ ((List NP) × (List row_Row) × Int)):=
 bnd (some a0.fRoot) fun q1=>match q1 with
| none=>
 some (Sum.inl ())
| some z2=>
 bnd (o_tNd z2) fun x3=>
 some (Sum.inr (x3.fKids,x3.fItems,x3.fN))
theorem tree_Tree_row_Row_Root_c {a0:tTr} {res:Unit ⊕ ((List NP) × (List row_Row) × Int)} (h0:tree_Tree_row_Row_Root a0=some res):CallF X 148 [.agg [(eOP a0.fRoot)]] [] (fun x=>(match res with | .inl res=>dQ | .inr res=>.nod [.sl 1 (List.map eNP res.1),.sl 3 (List.map e_row_Row res.2.1),dN res.2.2])) (fun x=>(match res with | .inl res=>[] | .inr res=>[])):=by
 unfold tree_Tree_row_Row_Root at h0;refine CallF.mkG (X:=X) rfl Tryz.func148 rfl rfl Tryz.ntmps148 rfl rfl ?_;refine aS ?_;refine TL.op1 (OpR.boxImm rfl rfl) rfl ?_;refine aA rfl rfl ?_;refine aN rfl ?_;refine aS ?_;refine aA rfl rfl ?_;obtain⟨q1,hq1,h0⟩:=bS h0;rcases q1 with _|z2
 ·dsimp only at h0;refine TL.op1 (OpR.cast (OpR.pure rfl) (congrArg eOP (osi hq1))) rfl ?_;refine aA rfl rfl ?_;refine aN rfl ?_;refine T.ret ?_;obtain rfl:=osi h0;exact rO [] [2] rfl undef (cT rfl ResL.nil) rfl rfl rfl rfl
 dsimp only at h0;obtain⟨x3,hx3,h0⟩:=bS h0;rw[o_tNd_eq hx3] at hq1;refine TL.op1 (OpR.cast (OpR.pure rfl) (congrArg eOP (osi hq1))) rfl ?_;refine aA rfl rfl ?_;refine aN rfl ?_;refine T.ret ?_;obtain rfl:=osi h0;exact rO [] [2] rfl undef (cT rfl ResL.nil) rfl rfl rfl rfl
theorem tree_Tree_row_Row_Root_cx1 {a0:tTr} {res:Unit} (h0:tree_Tree_row_Row_Root a0=some (Sum.inl res)):CallF X 148 [.agg [(eOP a0.fRoot)]] [] (fun x=>dQ) (fun x=>[]):=tree_Tree_row_Row_Root_c h0
theorem tree_Tree_row_Row_Root_cx2 {a0:tTr} {res:(List NP) × (List row_Row) × Int} (h0:tree_Tree_row_Row_Root a0=some (Sum.inr res)):CallF X 148 [.agg [(eOP a0.fRoot)]] [] (fun x=>.nod [.sl 1 (List.map eNP res.1),.sl 3 (List.map e_row_Row res.2.1),dN res.2.2]) (fun x=>[]):=tree_Tree_row_Row_Root_c h0
noncomputable def walk_stack_row_Row_down.l1 (a4:Int) (s4:(List NP) × (List row_Row) × Int × Int × (List wFr)) (s14:Int × Int):Option (Lp (Int × Int) (Int × Int)):=
 bnd (if s14.2<(w64 ((s4.1.length:Int)-1)) then
 bnd (idx s4.1 s14.2) fun x24=>
 bnd (o_tNd x24) fun x25=>
 some (decide (a4≥(w64 (s14.1+x25.fN))))
else
 some false:Option Bool) fun t22=>
 if t22=true then
 bnd (idx s4.1 s14.2) fun x27=>
 bnd (o_tNd x27) fun x28=>
 some (Lp.next (w64 (s14.1+x28.fN),w64 (s14.2+1)))
else
 some (Lp.done (s14.1,s14.2))
noncomputable def walk_stack_row_Row_down.l2 (a4:Int) (s4:(List NP) × (List row_Row) × Int × Int × (List wFr)):Option (Lp ((List NP) × (List row_Row) × Int × Int × (List wFr)) ((List NP) × (List row_Row) × Int × Int × (List wFr))):=
 if (s4.1.length:Int)>0 then
 bnd (loop (walk_stack_row_Row_down.l1 a4 s4) (s4.2.2.2.1,0):Option (Int × Int)) fun t13=>
 bnd (app 24 s4.2.2.2.2 [(⟨(some (c_tNd (⟨s4.1,s4.2.1,s4.2.2.1⟩:tNd))),t13.1,t13.2⟩:wFr)]) fun x29=>
 bnd (idx s4.1 t13.2) fun x31=>
 bnd (o_tNd x31) fun x32=>
 some (Lp.next (x32.fKids,x32.fItems,x32.fN,t13.1,x29))
else
 some (Lp.done (s4.1,s4.2.1,s4.2.2.1,s4.2.2.2.1,s4.2.2.2.2))
noncomputable def walk_stack_row_Row_down (a0:List NP) (a1:List row_Row) (a2:Int) (a3:Int) (a4:Int):Option (List wFr):=
 bnd (loop (walk_stack_row_Row_down.l2 a4) (a0,a1,a2,a3,[]):Option ((List NP) × (List row_Row) × Int × Int × (List wFr))) fun t1=>
 bnd (app 24 t1.2.2.2.2 [(⟨(some (c_tNd (⟨t1.1,t1.2.1,t1.2.2.1⟩:tNd))),t1.2.2.2.1,w64 (a4-t1.2.2.2.1)⟩:wFr)]) fun x33=>
 some x33
theorem walk_stack_row_Row_down_c {a0:List NP} {a1:List row_Row} {a2:Int} {a3:Int} {a4:Int} {b0:Nat} {res:(List wFr)} (h0:walk_stack_row_Row_down a0 a1 a2 a3 a4=some res):CallF X 147 [dP b0,.nod [.sl 1 (List.map eNP a0),.sl 3 (List.map e_row_Row a1),dN a2],dN a3,dN a4] [.var b0 [.val (.slice none 0 0)] 228] (fun x=>.tup []) (fun x=>[.var b0 [.val (vn x 0)] 228,.row (vn x 0) (List.map e_wFr res) 3 234]):=by
 unfold walk_stack_row_Row_down at h0;refine CallF.mkG (X:=X) rfl Tryz.func147 rfl rfl Tryz.ntmps147 rfl rfl ?_;refine T.seq ?_;obtain⟨t1,ht1,h0⟩:=bS h0;refine T.cutC (fun S'=>∃ y2:Value,S'=⟨[(3,(dN a4)),(2,(dN t1.2.2.2.1)),(1,.nod [.sl 1 (List.map eNP t1.1),.sl 3 (List.map e_row_Row t1.2.1),dN t1.2.2.1]),(0,(dP b0))],[.var b0 [.val y2] 228,.row y2 (List.map e_wFr t1.2.2.2.2) 3 234],88⟩) (fun _ h=>h) ?_ ?_;rotate_left
 ·rintro _ ⟨y2,rfl⟩;show T X _ _ _;refine T.region ?_;iterate 4 refine aA rfl rfl ?_
  refine TL.op1 (OpR.loadPtr 0 rfl rfl rfl rfl) rfl ?_;iterate 5 refine aA rfl rfl ?_
  refine TL.op1 (OpR.build rfl rfl rfl rfl rfl) rfl ?_;refine TL.op1 (OpR.lit rfl rfl rfl rfl rfl rfl rfl) rfl ?_;obtain⟨x33,hx33,h0⟩:=bS h0;refine TL.op (OpR.appendM (m:=[(⟨(some (c_tNd (⟨t1.1,t1.2.1,t1.2.2.1⟩:tNd))),t1.2.2.2.1,w64 (a4-t1.2.2.2.1)⟩:wFr)]) e_wFr 1 hx33 rfl rfl rfl rfl rfl rfl rfl rfl rfl (fun _=>rfl)) rfl (fun v34=>?_);iterate 2 refine aA rfl rfl ?_
  refine TL.op0 (OpR.store 0 rfl rfl rfl rfl rfl rfl rfl rfl) ?_;refine TL.nil ?_;obtain rfl:=osi h0;exact PostG.finP (ks:=[0,1]) (Gst.only [] rfl) (.tuple #[v34]) ResL.nil rfl rfl rfl rfl
 refine T.block ?_;obtain⟨n5,n10⟩:=loop_some ht1;refine T.loop (fun n S'=>∃ S'',Gst S' S''∧∃ y3:Value,∃ s4:(List NP) × (List row_Row) × Int × Int × (List wFr),S''=⟨[(3,(dN a4)),(2,(dN s4.2.2.2.1)),(1,.nod [.sl 1 (List.map eNP s4.1),.sl 3 (List.map e_row_Row s4.2.1),dN s4.2.2.1]),(0,(dP b0))],[.var b0 [.val y3] 228,.row y3 (List.map e_wFr s4.2.2.2.2) 3 234],88⟩∧iter (walk_stack_row_Row_down.l2 a4) n s4=some t1) n5 ?_ ?_
 ·exact⟨_,Gst.trans (Gst.only [0,1,2,3] rfl) (Gst.nilRow (ow:=[.var b0 [.val (.slice none 0 0)] 228]) 3 234 rfl),(.slice none 0 0),(a0,a1,a2,a3,[]),rfl,n10⟩
 rintro n5 _ ⟨_,g,y3,s4,rfl,i9⟩;refine T.ghost g ?_;obtain⟨m6,q7,rfl,q8,i9⟩:=iter_succ i9;unfold walk_stack_row_Row_down.l2 at q8;refine T.seq ?_;refine aS ?_;iterate 4 refine aA rfl rfl ?_
 refine TL.op1 (OpR.cast (OpR.pure rfl) (intE (lenM _ _))) rfl ?_;refine aA rfl rfl ?_;refine aN rfl ?_;rcases ite_some q8 with ⟨c12,q8⟩|⟨c12,q8⟩;rotate_left
 ·refine T.condF rfl (eF c12) ?_;refine T.exit ?_;obtain rfl:=osi q8;obtain rfl:_=_:=i9;exact⟨_,Gst.only [0,1,2,3] rfl,y3,rfl⟩
 refine T.condT rfl (eT c12) ?_;refine aK rfl ?_;refine T.block ?_;refine aS ?_;refine aA rfl rfl ?_;refine aN rfl ?_;refine T.seq ?_;obtain⟨t13,ht13,q8⟩:=bS q8;refine T.cutC (fun S'=>S'=⟨[(8,(dN t13.2)),(3,(dN a4)),(2,(dN t13.1)),(1,.nod [.sl 1 (List.map eNP s4.1),.sl 3 (List.map e_row_Row s4.2.1),dN s4.2.2.1]),(0,(dP b0))],[.var b0 [.val y3] 228,.row y3 (List.map e_wFr s4.2.2.2.2) 3 234],88⟩) (fun _ h=>h) ?_ ?_;rotate_left
 ·rintro _ rfl;show T X _ _ _;refine aS ?_;iterate 4 refine aA rfl rfl ?_
  refine TL.op1 (OpR.loadPtr 0 rfl rfl rfl rfl) rfl ?_;iterate 3 refine aA rfl rfl ?_
  refine TL.op1 (OpR.build rfl rfl rfl rfl rfl) rfl ?_;refine TL.op1 (OpR.lit rfl rfl rfl rfl rfl rfl rfl) rfl ?_;obtain⟨x29,hx29,q8⟩:=bS q8;refine TL.op (OpR.appendM (m:=[(⟨(some (c_tNd (⟨s4.1,s4.2.1,s4.2.2.1⟩:tNd))),t13.1,t13.2⟩:wFr)]) e_wFr 1 hx29 rfl rfl rfl rfl rfl rfl rfl rfl rfl (fun _=>rfl)) rfl (fun v30=>?_);iterate 2 refine aA rfl rfl ?_
  refine TL.op0 (OpR.store 0 rfl rfl rfl rfl rfl rfl rfl rfl) ?_;refine aN rfl ?_;refine T.region ?_;iterate 5 refine aA rfl rfl ?_
  obtain⟨x31,hx31,q8⟩:=bS q8;obtain⟨x32,hx32,q8⟩:=bS q8;rw[o_tNd_eq hx32] at hx31;refine TL.op1 (OpR.indexM eNP hx31 rfl rfl rfl rfl rfl) rfl ?_;iterate 2 refine aA rfl rfl ?_
  refine TL.nil ?_;obtain rfl:=osi q8;exact⟨m6,Nat.lt_succ_self _,_,Gst.only [0,1,2,3] rfl,v30,(x32.fKids,x32.fItems,x32.fN,t13.1,x29),rfl,i9⟩
 refine T.block ?_;obtain⟨n15,n20⟩:=loop_some ht13;refine T.loop (fun n S'=>∃ S'',Gst S' S''∧∃ s14:Int × Int,S''=⟨[(8,(dN s14.2)),(3,(dN a4)),(2,(dN s14.1)),(1,.nod [.sl 1 (List.map eNP s4.1),.sl 3 (List.map e_row_Row s4.2.1),dN s4.2.2.1]),(0,(dP b0))],[.var b0 [.val y3] 228,.row y3 (List.map e_wFr s4.2.2.2.2) 3 234],88⟩∧iter (walk_stack_row_Row_down.l1 a4 s4) n s14=some t13) n15 ?_ ?_
 ·exact⟨_,Gst.only [0,1,2,3,8] rfl,(s4.2.2.2.1,0),rfl,n20⟩
 rintro n15 _ ⟨_,g,s14,rfl,i19⟩;refine T.ghost g ?_;obtain⟨m16,q17,rfl,q18,i19⟩:=iter_succ i19;unfold walk_stack_row_Row_down.l1 at q18;refine T.seq ?_;refine T.seq ?_;obtain⟨t22,ht22,q18⟩:=bS q18;refine T.cutC (fun S'=>S'=⟨[(38,(dT t22)),(8,(dN s14.2)),(3,(dN a4)),(2,(dN s14.1)),(1,.nod [.sl 1 (List.map eNP s4.1),.sl 3 (List.map e_row_Row s4.2.1),dN s4.2.2.1]),(0,(dP b0))],[.var b0 [.val y3] 228,.row y3 (List.map e_wFr s4.2.2.2.2) 3 234],88⟩) (fun _ h=>h) ?_ ?_;rotate_left
 ·rintro _ rfl;show T X _ _ _;rcases ite_some q18 with ⟨c26,q18⟩|⟨c26,q18⟩;rotate_left
  ·refine T.condF rfl (eq_false_of_ne_true c26) ?_;refine T.exit ?_;obtain rfl:=osi q18;obtain rfl:_=_:=i19;exact⟨_,Gst.only [0,1,2,3,8] rfl,rfl⟩
  refine T.condT rfl (c26) ?_;refine aK rfl ?_;refine T.block ?_;refine aS ?_;iterate 6 refine aA rfl rfl ?_
  obtain⟨x27,hx27,q18⟩:=bS q18;obtain⟨x28,hx28,q18⟩:=bS q18;rw[o_tNd_eq hx28] at hx27;refine TL.op1 (OpR.indexM eNP hx27 rfl rfl rfl rfl rfl) rfl ?_;iterate 6 refine aA rfl rfl ?_
  refine aN rfl ?_;refine T.region ?_;iterate 3 refine aA rfl rfl ?_
  refine TL.nil ?_;obtain rfl:=osi q18;exact⟨m16,Nat.lt_succ_self _,_,Gst.only [0,1,2,3,8] rfl,(w64 (s14.1+x28.fN),w64 (s14.2+1)),rfl,i19⟩
 refine T.region ?_;iterate 5 refine aA rfl rfl ?_
 refine TL.op1 (OpR.cast (OpR.pure rfl) (intE (lenM _ _))) rfl ?_;iterate 3 refine aA rfl rfl ?_
 rcases ite_some ht22 with ⟨c23,ht22⟩|⟨c23,ht22⟩;rotate_left
 ·refine TL.off rfl rfl rfl rfl (eF c23) rfl rfl ?_;refine TL.off rfl rfl rfl rfl (eF c23) rfl rfl ?_;refine TL.off rfl rfl rfl rfl (eF c23) rfl rfl ?_;refine TL.off rfl rfl rfl rfl (eF c23) rfl rfl ?_;refine TL.off rfl rfl rfl rfl (eF c23) rfl rfl ?_;refine TL.off rfl rfl rfl rfl (eF c23) rfl rfl ?_;refine TL.off rfl rfl rfl rfl (eF c23) rfl rfl ?_;refine TL.off rfl rfl rfl rfl (eF c23) rfl rfl ?_;refine TL.off rfl rfl rfl rfl (eF c23) rfl rfl ?_;refine TL.off rfl rfl rfl rfl (eF c23) rfl rfl ?_;refine TL.off rfl rfl rfl rfl (eF c23) rfl rfl ?_;refine TL.off rfl rfl rfl rfl (eF c23) rfl rfl ?_;refine TL.off rfl rfl rfl rfl (eF c23) rfl rfl ?_;refine TL.off rfl rfl rfl rfl (eF c23) rfl rfl ?_;refine TL.op1 (OpR.pickF rfl (eF c23) rfl) rfl ?_;refine TL.nil ?_;obtain rfl:=osi ht22;exact⟨_,Gst.only [0,1,2,3,8,38] rfl,rfl⟩
 refine TL.on rfl rfl rfl rfl (eT c23) ?_;refine aA rfl rfl ?_;refine TL.on rfl rfl rfl rfl (eT c23) ?_;refine aA rfl rfl ?_;refine TL.on rfl rfl rfl rfl (eT c23) ?_;refine aA rfl rfl ?_;refine TL.on rfl rfl rfl rfl (eT c23) ?_;refine aA rfl rfl ?_;refine TL.on rfl rfl rfl rfl (eT c23) ?_;refine aA rfl rfl ?_;refine TL.on rfl rfl rfl rfl (eT c23) ?_;refine aA rfl rfl ?_;refine TL.on rfl rfl rfl rfl (eT c23) ?_;refine aA rfl rfl ?_;refine TL.on rfl rfl rfl rfl (eT c23) ?_;obtain⟨x24,hx24,ht22⟩:=bS ht22;obtain⟨x25,hx25,ht22⟩:=bS ht22;rw[o_tNd_eq hx25] at hx24;refine TL.op1 (OpR.indexM eNP hx24 rfl rfl rfl rfl rfl) rfl ?_;refine TL.on rfl rfl rfl rfl (eT c23) ?_;refine aA rfl rfl ?_;refine TL.on rfl rfl rfl rfl (eT c23) ?_;refine aA rfl rfl ?_;refine TL.on rfl rfl rfl rfl (eT c23) ?_;refine aA rfl rfl ?_;refine TL.on rfl rfl rfl rfl (eT c23) ?_;refine aA rfl rfl ?_;refine TL.on rfl rfl rfl rfl (eT c23) ?_;refine aA rfl rfl ?_;refine TL.on rfl rfl rfl rfl (eT c23) ?_;refine aA rfl rfl ?_;refine TL.op1 (OpR.pickT rfl (eT c23) rfl) rfl ?_;refine TL.nil ?_;obtain rfl:=osi ht22;exact⟨_,Gst.only [0,1,2,3,8,38] rfl,rfl⟩
noncomputable def walk_stack_row_Row_top (a0:List wFr):Option Int:=
 bnd (idx a0 (w64 ((a0.length:Int)-1))) fun x2=>
 some (w64 ((a0.length:Int)-1))
theorem walk_stack_row_Row_top_c {a0:List wFr} {b0:Nat} {v1:Value} {res:Int} (h0:walk_stack_row_Row_top a0=some res):CallF X 149 [dP b0] [.var b0 [.val v1] 228,.row v1 (List.map e_wFr a0) 3 234] (fun x=>.val (.pointer (some ⟨blk v1,res.toNat*3,none⟩))) (fun x=>[.var b0 [.val v1] 228,.row v1 (List.map e_wFr a0) 3 234]):=by
 unfold walk_stack_row_Row_top at h0;refine CallF.mkG (X:=X) rfl Tryz.func149 rfl rfl Tryz.ntmps149 rfl rfl ?_;refine aS ?_;refine aA rfl rfl ?_;refine aN rfl ?_;refine T.seq ?_;obtain⟨x2,hx2,h0⟩:=bS h0;refine T.drawQ drawsX [dP b0,dP b0,dP b0,.val v1,dP b0,dP b0,dP b0,.val v1,dN (a0.length:Int),dN (w64 ((a0.length:Int)-1)),.val (.pointer (some ⟨blk v1,(w64 ((a0.length:Int)-1)).toNat*3,none⟩)),.val (.pointer (some ⟨blk v1,(w64 ((a0.length:Int)-1)).toNat*3,none⟩))] [2] (by decide +kernel) rfl ?_ rfl ?_;rotate_left
 ·show T X _ _ _;refine T.ret ?_;obtain rfl:=osi h0;exact rO [0,1] [2] rfl undef (cT rfl ResL.nil) rfl rfl rfl rfl
 iterate 3 refine aB rfl rfl rfl ?_
 refine OpsQ.yes (Want.plain rfl) rfl (OpR.loadPtr 0 rfl rfl rfl rfl) ?_;iterate 3 refine aB rfl rfl rfl ?_
 refine OpsQ.yes (Want.plain rfl) rfl (OpR.loadPtr 0 rfl rfl rfl rfl) ?_;refine OpsQ.yes (Want.plain rfl) rfl (OpR.rowLenM e_wFr 1 rfl rfl rfl rfl) ?_;refine aB rfl rfl rfl ?_;refine OpsQ.yes (Want.plain rfl) rfl (OpR.rowIndexM e_wFr 1 hx2 rfl rfl rfl rfl rfl rfl rfl) ?_;refine aB rfl rfl rfl ?_;exact OpsQ.nil
end Go.Proofs.YtpmhiiemklhbhaaGreat.S
