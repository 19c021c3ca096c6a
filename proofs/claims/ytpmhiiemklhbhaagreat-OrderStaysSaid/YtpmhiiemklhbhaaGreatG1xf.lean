import Derived.Test.YtpmhiiemklhbhaaGreatG1xe
import Derived.Test.YtpmhiiemklhbhaaGreatG1xb
import Derived.Test.YtpmhiiemklhbhaaGreatG1xd
set_option maxHeartbeats 4000000
set_option linter.unusedVariables false
set_option linter.unusedSimpArgs false
set_option maxRecDepth 20000
namespace Go.Proofs.YtpmhiiemklhbhaaGreat.S
open Go Go.Sm
attribute [local irreducible] T TL OpR CallT wo loop
noncomputable def yf.l1 (x1:grid_Grid × ref11_Grid × Bool × (List UInt8)) (x5:(List order_By) × (List ref16_By)) (x15:(List Int)) (x16:ref11_Grid) (x18:(List Int)) (s30:Int):Option (Lp Int (Ex Unit Bool)):=
 if s30<(x15.length:Int) then
 bnd (idx x15 s30) fun x39=>
 bnd (bnd (si x1.2.1 x39) fun x42=>
 if x42=true then
 bnd (idx x18 s30) fun x44=>
 bnd (idx x16.fRows x44) fun x45=>
 bnd (idx x1.2.1.fRows x39) fun x46=>
 bnd (tY x45 x46) fun x47=>
 some (!x47)
else
 some true:Option Bool) fun t40=>
 if t40=true then
 some (Lp.done (Ex.ret false))
else
 bnd (if s30>0 then
 bnd (idx x15 (w64 (s30-1))) fun x52=>
 bnd (idx x1.2.1.fRows x52) fun x53=>
 bnd (idx x1.2.1.fRows x39) fun x54=>
 bnd (xw x53 x54 x5.2) fun x55=>
 if x55=0 then
 some (decide (x52≥x39))
else
 some false
else
 some false:Option Bool) fun t49=>
 if t49=true then
 some (Lp.done (Ex.ret false))
else
 some (Lp.next (w64 (s30+1)))
else
 some (Lp.done (Ex.brk ()))
noncomputable def yf.l2 (x1:grid_Grid × ref11_Grid × Bool × (List UInt8)) (x16:ref11_Grid) (s60:Int):Option (Lp Int (Ex Unit Bool)):=
 if s60<(x1.2.1.fRows.length:Int) then
 bnd (idx x1.2.1.fRows s60) fun x69=>
 bnd (if x69.fHidden=true then
 bnd (idx x16.fRows s60) fun x74=>
 bnd (tY x74 x69) fun x75=>
 some (!x75)
else
 some false:Option Bool) fun t71=>
 if t71=true then
 some (Lp.done (Ex.ret false))
else
 some (Lp.next (w64 (s60+1)))
else
 some (Lp.done (Ex.brk ()))
noncomputable def yf (a0:List UInt8) (a1:Int) (a2:List ref16_By):Option Bool:=
 bnd (wg a0 a1) fun x1=>
 match x1 with
 | .inl x1=>
  bnd (wA a2) fun x5=>
  bnd (if x1.2.2.1=true then
   bnd (wi x5.2) fun x8=>
   some (!x8)
  else
   some true:Option Bool) fun t6=>
  if t6=true then
   bnd (su) fun x10=>
   some x10
  else
   bnd (uI x1.1 x5.1 x1.2.2.2) fun x11=>
   bnd (uI x11.1 x5.1 x1.2.2.2) fun x13=>
   bnd (xW x1.1 x5.1 x1.2.2.2) fun x15=>
   bnd (wj x11.1 x1.2.2.2) fun x16=>
   bnd (xx x1.2.1) fun x18=>
   bnd (if x11.2=0 then
    if x13.2=0 then
     bnd (tH x11.1 x5.1 x1.2.2.2) fun x22=>
     if x22=true then
      bnd (qi x11.1 x13.1 x1.2.2.2) fun x24=>
      if x24=true then
       if (x15.length:Int)=(x18.length:Int) then
        some (!((x16.fRows.length:Int)==(x1.2.1.fRows.length:Int)))
       else
        some true
      else
       some true
     else
      some true
    else
     some true
   else
    some true:Option Bool) fun t19=>
   if t19=true then
    some false
   else
    bnd (loop (yf.l1 x1 x5 x15 x16 x18) 0:Option (Ex Unit Bool)) fun t28=>match t28 with
     | .brk u29=>
      bnd (loop (yf.l2 x1 x16) 0:Option (Ex Unit Bool)) fun t58=>match t58 with
       | .brk u59=>
        bnd (su) fun x77=>
        some x77
       | .ret u59=>some u59
     | .ret u29=>some u29
 | .inr x1=>
  bnd (wA a2) fun x80=>
  some false
theorem pR {a0:List UInt8} {a1:Int} {a2:List ref16_By} {res:Bool} (h0:yf a0 a1 a2=some res):zo X 13 [.val (.string (bs a0)),.val (.int .u64 a1),.sl 2 (List.map yv a2)] [] (fun x=>(dT res)) (fun x=>[]):=by
 unfold yf at h0;refine zb (X:=X) Z Tryz.func13 Z Z Tryz.ntmps13 Z Z ?_;refine aS ?_;refine aA Z Z ?_;refine aN Z ?_;refine aS ?_;iterate 2 refine aA rfl rfl ?_
 obtain⟨x1,hx1,h0⟩:=bS h0;rcases x1 with x1|x1;rotate_left
 ·dsimp only at h0;refine z6 (zh fn49 (law16_Hide_cx2 hx1) Z) Z ?_;iterate 5 refine aA rfl rfl ?_
  refine TL.op (OpR.alloc Z Z (fun _=>Z)) Z (fun p78=>?_);refine TL.op (OpR.alloc Z Z (fun _=>Z)) Z (fun p79=>?_);refine zv (OpR.store 0 Z Z Z Z Z Z Z Z) ?_;refine aA Z Z ?_;refine zv (OpR.store 1 Z Z Z Z Z Z Z Z) ?_;refine aA Z Z ?_;refine aN Z ?_;refine aS ?_;refine aA Z Z ?_;obtain⟨x80,hx80,h0⟩:=bS h0;refine z6 (zh fn54 (law16_Keys_c hx80) Z) Z ?_;iterate 5 refine aA rfl rfl ?_
  refine aN Z ?_;refine T.seq ?_;refine aS ?_;iterate 3 refine aA rfl rfl ?_
  refine TL.off Z Z Z Z Z Z Z ?_;refine TL.off Z Z Z Z Z Z Z ?_;refine TL.off Z Z Z Z Z Z Z ?_;refine z6 (zt Z Z Z) Z ?_;refine aN Z ?_;refine zf Z Z ?_;refine aS ?_;refine aA Z Z ?_;refine z6 (qn (A:=none) Z Z Z) Z ?_;refine aA Z Z ?_;refine TL.off Z Z Z Z Z Z Z ?_;refine z6 (zx Z Z Z) Z ?_;refine aA Z Z ?_;refine aN Z ?_;refine T.ret ?_;obtain rfl:=osi h0;exact rP [] [6] [] Z Z Z undef (cT Z ResL.nil) Z Z Z Z
 dsimp only at h0;refine TL.op (OpR.call [] fn49 (law16_Hide_cx1 hx1) Z Z Z (fun _=>Z)) Z (fun w2=>?_);iterate 5 refine aA rfl rfl ?_
 refine TL.op (OpR.alloc Z Z (fun _=>Z)) Z (fun p3=>?_);refine TL.op (OpR.alloc Z Z (fun _=>Z)) Z (fun p4=>?_);refine zv (OpR.store 2 Z Z Z Z Z Z Z Z) ?_;refine aA Z Z ?_;refine zv (OpR.store 3 Z Z Z Z Z Z Z Z) ?_;refine aA Z Z ?_;refine aN Z ?_;refine aS ?_;refine aA Z Z ?_;obtain⟨x5,hx5,h0⟩:=bS h0;refine z6 (zh fn54 (law16_Keys_c hx5) Z) Z ?_;iterate 5 refine aA rfl rfl ?_
 refine aN Z ?_;refine T.seq ?_;refine T.seq ?_;obtain⟨t6,ht6,h0⟩:=bS h0;refine zA (fun S'=>S'=⟨[(43,(dT t6)),(12,.sl 2 (List.map yv x5.2)),(11,.sl 2 (List.map zg x5.1)),(9,(dP (blk p4))),(8,(dP (blk (vn w2 0)))),(7,(dP (blk p3))),(6,(dT false))],[.var (blk p3) [(eOP x1.1.fRows.fRoot),dT x1.1.fTail,dN x1.1.fEnd] 27,.var (blk (vn w2 0)) [.val (vn w2 1)] 264,.var (blk p4) [.sl 3 (List.map zl x1.2.1.fRows),dT x1.2.1.fTail,dN x1.2.1.fEnd] 31,.row (vn w2 1) (lB x1.2.2.2) 1 5],189⟩) (fun _ h=>h) ?_ ?_
 ·refine T.region ?_;iterate 3 refine aA rfl rfl ?_
  rcases z9 ht6 with ⟨c7,ht6⟩|⟨c7,ht6⟩;rotate_left
  ·refine TL.off Z Z Z Z (zR (eN c7)) Z Z ?_;refine TL.off Z Z Z Z (zR (eN c7)) Z Z ?_;refine TL.off Z Z Z Z (zR (eN c7)) Z Z ?_;refine z6 (zt Z (zR (eN c7)) Z) Z ?_;refine TL.nil ?_;obtain rfl:=osi ht6;exact⟨_,gP [6,7,8,9,11,12,43] [2,0,3,1] Z Z Z,Z⟩
  refine TL.on Z Z Z Z (zQ (c7)) ?_;refine aA Z Z ?_;refine TL.on Z Z Z Z (zQ (c7)) ?_;obtain⟨x8,hx8,ht6⟩:=bS ht6;refine z6 (zh fn57 (ref16_Right_c hx8) Z) Z ?_;refine TL.on Z Z Z Z (zQ (c7)) ?_;refine aA Z Z ?_;refine z6 (zx Z (zQ (c7)) Z) Z ?_;refine TL.nil ?_;obtain rfl:=osi ht6;exact⟨_,gP [6,7,8,9,11,12,43] [2,0,3,1] Z Z Z,Z⟩
 rintro _ rfl;show T X _ _ _;rcases z9 h0 with ⟨c9,h0⟩|⟨c9,h0⟩
 ·refine zf Z (c9) ?_;refine aS ?_;refine aA Z Z ?_;refine z6 (qn (A:=some ⟨(blk (vn w2 0)),0,none⟩) Z Z Z) Z ?_;refine aA Z Z ?_;refine TL.on Z Z Z Z Z ?_;obtain⟨x10,hx10,h0⟩:=bS h0;refine z6 (zh fn39 (pJ hx10) Z) Z ?_;refine z6 (zt Z Z Z) Z ?_;refine aA Z Z ?_;refine aN Z ?_;refine T.ret ?_;obtain rfl:=osi h0;exact rP [] [6] [] Z Z Z undef (cT Z ResL.nil) Z Z Z Z
 refine ze Z (eN c9) ?_;refine aK Z ?_;refine aS ?_;refine z6 (z7 0 Z Z Z Z) Z ?_;iterate 2 refine aA rfl rfl ?_
 obtain⟨x11,hx11,h0⟩:=bS h0;refine z6 (OpR.call [1,3] fn50 (qt hx11) Z Z Z (fun _=>Z)) Z ?_;iterate 3 refine aA rfl rfl ?_
 refine TL.op (OpR.alloc Z Z (fun _=>Z)) Z (fun p12=>?_);refine zv (OpR.store 4 Z Z Z Z Z Z Z Z) ?_;refine aA Z Z ?_;refine aN Z ?_;refine aS ?_;refine z6 (z7 4 Z Z Z Z) Z ?_;iterate 2 refine aA rfl rfl ?_
 obtain⟨x13,hx13,h0⟩:=bS h0;refine z6 (OpR.call [1,3] fn50 (qt hx13) Z Z Z (fun _=>Z)) Z ?_;iterate 3 refine aA rfl rfl ?_
 refine TL.op (OpR.alloc Z Z (fun _=>Z)) Z (fun p14=>?_);refine zv (OpR.store 5 Z Z Z Z Z Z Z Z) ?_;refine aA Z Z ?_;refine aN Z ?_;refine aS ?_;refine z6 (z7 0 Z Z Z Z) Z ?_;iterate 2 refine aA rfl rfl ?_
 obtain⟨x15,hx15,h0⟩:=bS h0;refine z6 (OpR.call [1,3] fn59 (order_Perm_c hx15) Z Z Z (fun _=>Z)) Z ?_;refine aA Z Z ?_;refine aN Z ?_;refine aS ?_;refine aA Z Z ?_;refine z6 (z7 4 Z Z Z Z) Z ?_;obtain⟨x16,hx16,h0⟩:=bS h0;refine z6 (OpR.call [1,3] fn19 (law11_Plain_c hx16) Z Z Z (fun _=>Z)) Z ?_;refine TL.op (OpR.alloc Z Z (fun _=>Z)) Z (fun p17=>?_);refine zv (OpR.store 6 Z Z Z Z Z Z Z Z) ?_;refine aN Z ?_;refine aS ?_;refine z6 (z7 2 Z Z Z Z) Z ?_;obtain⟨x18,hx18,h0⟩:=bS h0;refine z6 (zh fn63 (ref11_Visible_c hx18) Z) Z ?_;refine aA Z Z ?_;refine aN Z ?_;refine T.seq ?_;refine T.seq ?_;obtain⟨t19,ht19,h0⟩:=bS h0;refine zA (fun S'=>S'=⟨[(107,(dT t19)),(19,.sl 1 (List.map (eI .i64) x18)),(18,(dP (blk p17))),(17,.sl 1 (List.map (eI .i64) x15)),(12,.sl 2 (List.map yv x5.2)),(9,(dP (blk p4))),(6,(dT false))],[.var (blk p4) [.sl 3 (List.map zl x1.2.1.fRows),dT x1.2.1.fTail,dN x1.2.1.fEnd] 31,.var (blk p17) [.sl 3 (List.map zl x16.fRows),dT x16.fTail,dN x16.fEnd] 31],189⟩) (fun _ h=>h) ?_ ?_
 ·refine T.region ?_;iterate 3 refine aA rfl rfl ?_
  rcases z9 ht19 with ⟨c20,ht19⟩|⟨c20,ht19⟩;rotate_left
  ·refine TL.off Z Z Z Z (zR (beq_eq_false_iff_ne.2 c20)) Z Z ?_;refine TL.off Z Z Z Z (zR (beq_eq_false_iff_ne.2 c20)) Z Z ?_;refine z6 (zt Z (zR (beq_eq_false_iff_ne.2 c20)) Z) Z ?_;refine aA Z Z ?_;refine TL.off Z Z Z Z Z Z Z ?_;refine TL.off Z Z Z Z Z Z Z ?_;refine TL.off Z Z Z Z Z Z Z ?_;refine TL.off Z Z Z Z Z Z Z ?_;refine TL.off Z Z Z Z Z Z Z ?_;refine z6 (zt Z Z Z) Z ?_;refine aA Z Z ?_;refine TL.off Z Z Z Z Z Z Z ?_;refine TL.off Z Z Z Z Z Z Z ?_;refine TL.off Z Z Z Z Z Z Z ?_;refine TL.off Z Z Z Z Z Z Z ?_;refine TL.off Z Z Z Z Z Z Z ?_;refine z6 (zt Z Z Z) Z ?_;refine aA Z Z ?_;refine TL.off Z Z Z Z Z Z Z ?_;refine TL.off Z Z Z Z Z Z Z ?_;refine TL.off Z Z Z Z Z Z Z ?_;refine TL.off Z Z Z Z Z Z Z ?_;refine TL.off Z Z Z Z Z Z Z ?_;refine z6 (zt Z Z Z) Z ?_;refine aA Z Z ?_;refine TL.off Z Z Z Z Z Z Z ?_;refine TL.off Z Z Z Z Z Z Z ?_;refine TL.off Z Z Z Z Z Z Z ?_;refine TL.off Z Z Z Z Z Z Z ?_;refine TL.off Z Z Z Z Z Z Z ?_;refine TL.off Z Z Z Z Z Z Z ?_;refine TL.off Z Z Z Z Z Z Z ?_;refine z6 (zt Z Z Z) Z ?_;refine TL.nil ?_;obtain rfl:=osi ht19;exact⟨_,gP [6,9,12,17,18,19,107] [2,6] Z Z Z,Z⟩
  refine TL.on Z Z Z Z (zQ (beq_iff_eq.2 c20)) ?_;refine aA Z Z ?_;refine TL.on Z Z Z Z (zQ (beq_iff_eq.2 c20)) ?_;refine aA Z Z ?_;refine z6 (zx Z (zQ (beq_iff_eq.2 c20)) Z) Z ?_;refine aA Z Z ?_;rcases z9 ht19 with ⟨c21,ht19⟩|⟨c21,ht19⟩;rotate_left
  ·refine TL.off Z Z Z Z (zR (beq_eq_false_iff_ne.2 c21)) Z Z ?_;refine TL.off Z Z Z Z (zR (beq_eq_false_iff_ne.2 c21)) Z Z ?_;refine TL.off Z Z Z Z (zR (beq_eq_false_iff_ne.2 c21)) Z Z ?_;refine TL.off Z Z Z Z (zR (beq_eq_false_iff_ne.2 c21)) Z Z ?_;refine TL.off Z Z Z Z (zR (beq_eq_false_iff_ne.2 c21)) Z Z ?_;refine z6 (zt Z (zR (beq_eq_false_iff_ne.2 c21)) Z) Z ?_;refine aA Z Z ?_;refine TL.off Z Z Z Z Z Z Z ?_;refine TL.off Z Z Z Z Z Z Z ?_;refine TL.off Z Z Z Z Z Z Z ?_;refine TL.off Z Z Z Z Z Z Z ?_;refine TL.off Z Z Z Z Z Z Z ?_;refine z6 (zt Z Z Z) Z ?_;refine aA Z Z ?_;refine TL.off Z Z Z Z Z Z Z ?_;refine TL.off Z Z Z Z Z Z Z ?_;refine TL.off Z Z Z Z Z Z Z ?_;refine TL.off Z Z Z Z Z Z Z ?_;refine TL.off Z Z Z Z Z Z Z ?_;refine z6 (zt Z Z Z) Z ?_;refine aA Z Z ?_;refine TL.off Z Z Z Z Z Z Z ?_;refine TL.off Z Z Z Z Z Z Z ?_;refine TL.off Z Z Z Z Z Z Z ?_;refine TL.off Z Z Z Z Z Z Z ?_;refine TL.off Z Z Z Z Z Z Z ?_;refine TL.off Z Z Z Z Z Z Z ?_;refine TL.off Z Z Z Z Z Z Z ?_;refine z6 (zt Z Z Z) Z ?_;refine TL.nil ?_;obtain rfl:=osi ht19;exact⟨_,gP [6,9,12,17,18,19,107] [2,6] Z Z Z,Z⟩
  refine TL.on Z Z Z Z (zQ (beq_iff_eq.2 c21)) ?_;refine z6 (z7 4 Z Z Z Z) Z ?_;refine TL.on Z Z Z Z (zQ (beq_iff_eq.2 c21)) ?_;refine aA Z Z ?_;refine TL.on Z Z Z Z (zQ (beq_iff_eq.2 c21)) ?_;refine aA Z Z ?_;refine TL.on Z Z Z Z (zQ (beq_iff_eq.2 c21)) ?_;obtain⟨x22,hx22,ht19⟩:=bS ht19;refine z6 (OpR.call [1,3] fn61 (order_Sorted_c hx22) Z Z Z (fun _=>Z)) Z ?_;refine TL.on Z Z Z Z (zQ (beq_iff_eq.2 c21)) ?_;refine aA Z Z ?_;refine z6 (zx Z (zQ (beq_iff_eq.2 c21)) Z) Z ?_;refine aA Z Z ?_;rcases z9 ht19 with ⟨c23,ht19⟩|⟨c23,ht19⟩;rotate_left
  ·refine TL.off Z Z Z Z (zR (eN c23)) Z Z ?_;refine TL.off Z Z Z Z (zR (eN c23)) Z Z ?_;refine TL.off Z Z Z Z (zR (eN c23)) Z Z ?_;refine TL.off Z Z Z Z (zR (eN c23)) Z Z ?_;refine TL.off Z Z Z Z (zR (eN c23)) Z Z ?_;refine z6 (zt Z (zR (eN c23)) Z) Z ?_;refine aA Z Z ?_;refine TL.off Z Z Z Z Z Z Z ?_;refine TL.off Z Z Z Z Z Z Z ?_;refine TL.off Z Z Z Z Z Z Z ?_;refine TL.off Z Z Z Z Z Z Z ?_;refine TL.off Z Z Z Z Z Z Z ?_;refine z6 (zt Z Z Z) Z ?_;refine aA Z Z ?_;refine TL.off Z Z Z Z Z Z Z ?_;refine TL.off Z Z Z Z Z Z Z ?_;refine TL.off Z Z Z Z Z Z Z ?_;refine TL.off Z Z Z Z Z Z Z ?_;refine TL.off Z Z Z Z Z Z Z ?_;refine TL.off Z Z Z Z Z Z Z ?_;refine TL.off Z Z Z Z Z Z Z ?_;refine z6 (zt Z Z Z) Z ?_;refine TL.nil ?_;obtain rfl:=osi ht19;exact⟨_,gP [6,9,12,17,18,19,107] [2,6] Z Z Z,Z⟩
  refine TL.on Z Z Z Z (zQ (c23)) ?_;refine aA Z Z ?_;refine TL.on Z Z Z Z (zQ (c23)) ?_;refine z6 (z7 4 Z Z Z Z) Z ?_;refine TL.on Z Z Z Z (zQ (c23)) ?_;refine z6 (z7 5 Z Z Z Z) Z ?_;refine TL.on Z Z Z Z (zQ (c23)) ?_;obtain⟨x24,hx24,ht19⟩:=bS ht19;refine z6 (OpR.call [1,3] fn28 (grid_Same_c hx24) Z Z Z (fun _=>Z)) Z ?_;refine TL.on Z Z Z Z (zQ (c23)) ?_;refine aA Z Z ?_;refine z6 (zx Z (zQ (c23)) Z) Z ?_;refine aA Z Z ?_;rcases z9 ht19 with ⟨c25,ht19⟩|⟨c25,ht19⟩;rotate_left
  ·refine TL.off Z Z Z Z (zR (eN c25)) Z Z ?_;refine TL.off Z Z Z Z (zR (eN c25)) Z Z ?_;refine TL.off Z Z Z Z (zR (eN c25)) Z Z ?_;refine TL.off Z Z Z Z (zR (eN c25)) Z Z ?_;refine TL.off Z Z Z Z (zR (eN c25)) Z Z ?_;refine z6 (zt Z (zR (eN c25)) Z) Z ?_;refine aA Z Z ?_;refine TL.off Z Z Z Z Z Z Z ?_;refine TL.off Z Z Z Z Z Z Z ?_;refine TL.off Z Z Z Z Z Z Z ?_;refine TL.off Z Z Z Z Z Z Z ?_;refine TL.off Z Z Z Z Z Z Z ?_;refine TL.off Z Z Z Z Z Z Z ?_;refine TL.off Z Z Z Z Z Z Z ?_;refine z6 (zt Z Z Z) Z ?_;refine TL.nil ?_;obtain rfl:=osi ht19;exact⟨_,gP [6,9,12,17,18,19,107] [2,6] Z Z Z,Z⟩
  refine TL.on Z Z Z Z (zQ (c25)) ?_;refine aA Z Z ?_;refine TL.on Z Z Z Z (zQ (c25)) ?_;refine z6 (zk (OpR.pure Z) (xn (w9 _ _))) Z ?_;refine TL.on Z Z Z Z (zQ (c25)) ?_;refine aA Z Z ?_;refine TL.on Z Z Z Z (zQ (c25)) ?_;refine z6 (zk (OpR.pure Z) (xn (w9 _ _))) Z ?_;refine TL.on Z Z Z Z (zQ (c25)) ?_;refine aA Z Z ?_;refine z6 (zx Z (zQ (c25)) Z) Z ?_;refine aA Z Z ?_;rcases z9 ht19 with ⟨c26,ht19⟩|⟨c26,ht19⟩;rotate_left
  ·refine TL.off Z Z Z Z (zR (beq_eq_false_iff_ne.2 c26)) Z Z ?_;refine TL.off Z Z Z Z (zR (beq_eq_false_iff_ne.2 c26)) Z Z ?_;refine TL.off Z Z Z Z (zR (beq_eq_false_iff_ne.2 c26)) Z Z ?_;refine TL.off Z Z Z Z (zR (beq_eq_false_iff_ne.2 c26)) Z Z ?_;refine TL.off Z Z Z Z (zR (beq_eq_false_iff_ne.2 c26)) Z Z ?_;refine TL.off Z Z Z Z (zR (beq_eq_false_iff_ne.2 c26)) Z Z ?_;refine TL.off Z Z Z Z (zR (beq_eq_false_iff_ne.2 c26)) Z Z ?_;refine z6 (zt Z (zR (beq_eq_false_iff_ne.2 c26)) Z) Z ?_;refine TL.nil ?_;obtain rfl:=osi ht19;exact⟨_,gP [6,9,12,17,18,19,107] [2,6] Z Z Z,Z⟩
  refine TL.on Z Z Z Z (zQ (beq_iff_eq.2 c26)) ?_;refine aA Z Z ?_;refine TL.on Z Z Z Z (zQ (beq_iff_eq.2 c26)) ?_;refine z6 (z7 6 Z Z Z Z) Z ?_;refine TL.on Z Z Z Z (zQ (beq_iff_eq.2 c26)) ?_;refine z6 (zk (OpR.pure Z) (xn (w9 _ _))) Z ?_;refine TL.on Z Z Z Z (zQ (beq_iff_eq.2 c26)) ?_;refine aA Z Z ?_;refine TL.on Z Z Z Z (zQ (beq_iff_eq.2 c26)) ?_;refine z6 (z7 2 Z Z Z Z) Z ?_;refine TL.on Z Z Z Z (zQ (beq_iff_eq.2 c26)) ?_;refine z6 (zk (OpR.pure Z) (xn (w9 _ _))) Z ?_;refine TL.on Z Z Z Z (zQ (beq_iff_eq.2 c26)) ?_;refine aA Z Z ?_;refine z6 (zx Z (zQ (beq_iff_eq.2 c26)) Z) Z ?_;refine TL.nil ?_;obtain rfl:=osi ht19;exact⟨_,gP [6,9,12,17,18,19,107] [2,6] Z Z Z,Z⟩
 rintro _ rfl;show T X _ _ _;rcases z9 h0 with ⟨c27,h0⟩|⟨c27,h0⟩
 ·refine zf Z (c27) ?_;refine aS ?_;refine aA Z Z ?_;refine aN Z ?_;refine T.ret ?_;obtain rfl:=osi h0;exact rP [] [6] [] Z Z Z undef (cT Z ResL.nil) Z Z Z Z
 refine ze Z (eN c27) ?_;refine aK Z ?_;refine T.seq ?_;refine aS ?_;refine aA Z Z ?_;refine z6 (zk (OpR.pure Z) (xn (w9 _ _))) Z ?_;refine aA Z Z ?_;refine aN Z ?_;obtain⟨t28,ht28,h0⟩:=bS h0;refine zA (fun S'=>∃ u29,t28=Ex.brk u29∧S'=⟨[(18,(dP (blk p17))),(9,(dP (blk p4))),(6,(dT false))],[.var (blk p4) [.sl 3 (List.map zl x1.2.1.fRows),dT x1.2.1.fTail,dN x1.2.1.fEnd] 31,.var (blk p17) [.sl 3 (List.map zl x16.fRows),dT x16.fTail,dN x16.fEnd] 31],189⟩) (fun _ h=>h) ?_ ?_;rotate_left
 ·rintro _ ⟨u29,rfl,rfl⟩;show T X _ _ _;refine T.seq ?_;refine aS ?_;refine aA Z Z ?_;refine z6 (z7 0 Z Z Z Z) Z ?_;refine z6 (zk (OpR.pure Z) (xn (w9 _ _))) Z ?_;refine aA Z Z ?_;refine aN Z ?_;obtain⟨t58,ht58,h0⟩:=bS h0;refine zA (fun S'=>∃ u59,t58=Ex.brk u59∧S'=⟨[(6,(dT false))],[],189⟩) (fun _ h=>h) ?_ ?_;rotate_left
  ·rintro _ ⟨u59,rfl,rfl⟩;show T X _ _ _;refine aS ?_;obtain⟨x77,hx77,h0⟩:=bS h0;refine z6 (zh fn39 (pJ hx77) Z) Z ?_;refine aA Z Z ?_;refine aN Z ?_;refine T.ret ?_;obtain rfl:=osi h0;exact rO [] [6] Z undef (cT Z ResL.nil) Z Z Z Z
  refine T.block ?_;obtain⟨n61,n66⟩:=zy ht58;refine T.loop (fun n S'=>∃ S'',Gst S' S''∧∃ s60:Int,S''=⟨[(170,(dN s60)),(169,(dN (x1.2.1.fRows.length:Int))),(168,.sl 3 (List.map zl x1.2.1.fRows)),(18,(dP (blk p17))),(6,(dT false))],[.var (blk p17) [.sl 3 (List.map zl x16.fRows),dT x16.fTail,dN x16.fEnd] 31],189⟩∧wo (yf.l2 x1 x16) n s60=some t58) n61 ?_ ?_
  ·exact⟨_,gP [6,18,168,169,170] [1] Z Z Z,0,Z,n66⟩
  rintro n61 _ ⟨_,g,s60,rfl,i65⟩;refine T.ghost g ?_;obtain⟨m62,q63,rfl,q64,i65⟩:=zz i65;unfold yf.l2 at q64;refine aS ?_;refine aA Z Z ?_;refine aN Z ?_;refine T.seq ?_;rcases z9 q64 with ⟨c68,q64⟩|⟨c68,q64⟩;rotate_left
  ·refine ze Z (eF c68) ?_;refine T.exit ?_;obtain rfl:=osi q64;obtain rfl:_=_:=i65;exact⟨_,gP [6] [] Z Z Z,_,Z,Z⟩
  refine zf Z (eT c68) ?_;refine aK Z ?_;refine T.seq ?_;refine T.block ?_;refine aS ?_;refine aA Z Z ?_;obtain⟨x69,hx69,q64⟩:=bS q64;refine z6 (zp zl hx69 Z Z Z Z Z) Z ?_;refine aA Z Z ?_;refine TL.op (OpR.alloc Z Z (fun _=>Z)) Z (fun p70=>?_);refine aA Z Z ?_;refine zv (OpR.store 1 Z Z Z Z Z Z Z Z) ?_;refine aN Z ?_;refine T.seq ?_;obtain⟨t71,ht71,q64⟩:=bS q64;refine zA (fun S'=>S'=⟨[(186,(dT t71)),(170,(dN s60)),(169,(dN (x1.2.1.fRows.length:Int))),(168,.sl 3 (List.map zl x1.2.1.fRows)),(18,(dP (blk p17))),(6,(dT false))],[.var (blk p17) [.sl 3 (List.map zl x16.fRows),dT x16.fTail,dN x16.fEnd] 31],189⟩) (fun _ h=>h) ?_ ?_;rotate_left
  ·rintro _ rfl;show T X _ _ _;rcases z9 q64 with ⟨c76,q64⟩|⟨c76,q64⟩;rotate_left
   ·refine ze Z (eN c76) ?_;refine aK Z ?_;refine T.region ?_;iterate 2 refine aA rfl rfl ?_
    refine TL.nil ?_;obtain rfl:=osi q64;exact⟨m62,Nat.lt_succ_self _,_,Gst.only [6,18,168,169,170] Z,w64 (s60+1),Z,i65⟩
   refine zf Z (c76) ?_;refine aS ?_;refine aA Z Z ?_;refine aN Z ?_;refine T.ret ?_;obtain rfl:=osi q64;obtain rfl:_=_:=i65;obtain rfl:=osi h0;exact rP [] [6] [] Z Z Z undef (cT Z ResL.nil) Z Z Z Z
  rcases z9 ht71 with ⟨c73,ht71⟩|⟨c73,ht71⟩;rotate_left
  ·refine yr zV [.val (.pointer (some ⟨(blk p70),2,none⟩)),dT x69.fHidden,dT x69.fHidden,.tup [],.tup [],.tup [],.tup [],.tup [],.tup [],.tup [],.tup [],dT false] [6,18,168,169,170,186] (by decide +kernel) Z ?_ Z ?_;rotate_left
   ·obtain rfl:=osi ht71;exact⟨_,gP [6,18,168,169,170,186] [0] Z Z Z,Z⟩
   refine aB Z Z Z ?_;refine zw.yes (Want.plain Z) Z (z7 1 Z Z Z Z) ?_;refine aB Z Z Z ?_;refine zw.no (Want.bool rfl rfl rfl rfl (by rw[(eN c73)]; rfl)) rfl ?_;refine zw.no (Want.bool rfl rfl rfl rfl (by rw[(eN c73)]; rfl)) rfl ?_;refine zw.no (Want.bool rfl rfl rfl rfl (by rw[(eN c73)]; rfl)) rfl ?_;refine zw.no (Want.bool rfl rfl rfl rfl (by rw[(eN c73)]; rfl)) rfl ?_;refine zw.no (Want.bool rfl rfl rfl rfl (by rw[(eN c73)]; rfl)) rfl ?_;refine zw.no (Want.bool rfl rfl rfl rfl (by rw[(eN c73)]; rfl)) rfl ?_;refine zw.no (Want.bool rfl rfl rfl rfl (by rw[(eN c73)]; rfl)) rfl ?_;refine zw.no (Want.bool rfl rfl rfl rfl (by rw[(eN c73)]; rfl)) rfl ?_;refine zw.yes (Want.plain Z) Z (zx Z (eN c73) Z) ?_;exact zw.nil
  obtain⟨x74,hx74,ht71⟩:=bS ht71;obtain⟨x75,hx75,ht71⟩:=bS ht71;refine yr zV [.val (.pointer (some ⟨(blk p70),2,none⟩)),dT x69.fHidden,dT x69.fHidden,dP (blk p17),.sl 3 (List.map zl x16.fRows),dN s60,.nod [.sl 3 (List.map zB x74.fCells),dN x74.fEnd,dT x74.fHidden],.agg [.sl 3 (List.map zB x74.fCells),dN x74.fEnd,dT x74.fHidden],.agg [.sl 3 (List.map zB x69.fCells),dN x69.fEnd,dT x69.fHidden],dT x75,dT (!x75),dT (!x75)] [6,18,168,169,170,186] (by decide +kernel) Z ?_ Z ?_;rotate_left
  ·obtain rfl:=osi ht71;exact⟨_,gP [6,18,168,169,170,186] [0] Z Z Z,Z⟩
  refine aB Z Z Z ?_;refine zw.yes (Want.plain Z) Z (z7 1 Z Z Z Z) ?_;refine aB Z Z Z ?_;refine zw.yes (Want.bool rfl rfl rfl rfl (by rw[(c73)]; rfl)) rfl (OpR.pure rfl) ?_;refine zw.yes (Want.bool rfl rfl rfl rfl (by rw[(c73)]; rfl)) rfl (z7 0 rfl rfl rfl rfl) ?_;refine zw.yes (Want.bool rfl rfl rfl rfl (by rw[(c73)]; rfl)) rfl (OpR.pure rfl) ?_;refine zw.yes (Want.bool rfl rfl rfl rfl (by rw[(c73)]; rfl)) rfl (zp zl hx74 rfl rfl rfl rfl rfl) ?_;refine zw.yes (Want.bool rfl rfl rfl rfl (by rw[(c73)]; rfl)) rfl (OpR.pure rfl) ?_;refine zw.yes (Want.bool rfl rfl rfl rfl (by rw[(c73)]; rfl)) rfl (z7 1 rfl rfl rfl rfl) ?_;refine zw.yes (Want.bool rfl rfl rfl rfl (by rw[(c73)]; rfl)) rfl (zh fn65 (ref08_Same_c hx75) rfl) ?_;refine zw.yes (Want.bool rfl rfl rfl rfl (by rw[(c73)]; rfl)) rfl (OpR.pure rfl) ?_;refine zw.yes (Want.plain Z) Z (zt Z (c73) Z) ?_;exact zw.nil
 refine T.block ?_;obtain⟨n31,n36⟩:=zy ht28;refine T.loop (fun n S'=>∃ S'',Gst S' S''∧∃ s30:Int,S''=⟨[(110,(dN s30)),(109,(dN (x15.length:Int))),(108,.sl 1 (List.map (eI .i64) x15)),(19,.sl 1 (List.map (eI .i64) x18)),(18,(dP (blk p17))),(17,.sl 1 (List.map (eI .i64) x15)),(12,.sl 2 (List.map yv x5.2)),(9,(dP (blk p4))),(6,(dT false))],[.var (blk p4) [.sl 3 (List.map zl x1.2.1.fRows),dT x1.2.1.fTail,dN x1.2.1.fEnd] 31,.var (blk p17) [.sl 3 (List.map zl x16.fRows),dT x16.fTail,dN x16.fEnd] 31],189⟩∧wo (yf.l1 x1 x5 x15 x16 x18) n s30=some t28) n31 ?_ ?_
 ·exact⟨_,Gst.only [6,9,12,17,18,19,108,109,110] Z,0,Z,n36⟩
 rintro n31 _ ⟨_,g,s30,rfl,i35⟩;refine T.ghost g ?_;obtain⟨m32,q33,rfl,q34,i35⟩:=zz i35;unfold yf.l1 at q34;refine aS ?_;refine aA Z Z ?_;refine aN Z ?_;refine T.seq ?_;rcases z9 q34 with ⟨c38,q34⟩|⟨c38,q34⟩;rotate_left
 ·refine ze Z (eF c38) ?_;refine T.exit ?_;obtain rfl:=osi q34;obtain rfl:_=_:=i35;exact⟨_,Gst.only [6,9,18] Z,_,Z,Z⟩
 refine zf Z (eT c38) ?_;refine aK Z ?_;refine T.seq ?_;refine T.block ?_;refine aS ?_;refine aA Z Z ?_;obtain⟨x39,hx39,q34⟩:=bS q34;refine z6 (zp (eI .i64) hx39 Z Z Z Z Z) Z ?_;iterate 3 refine aA rfl rfl ?_
 refine aN Z ?_;refine T.seq ?_;refine T.seq ?_;obtain⟨t40,ht40,q34⟩:=bS q34;refine zA (fun S'=>S'=⟨[(135,(dT t40)),(110,(dN s30)),(109,(dN (x15.length:Int))),(108,.sl 1 (List.map (eI .i64) x15)),(21,(dN x39)),(20,(dN s30)),(19,.sl 1 (List.map (eI .i64) x18)),(18,(dP (blk p17))),(17,.sl 1 (List.map (eI .i64) x15)),(12,.sl 2 (List.map yv x5.2)),(9,(dP (blk p4))),(6,(dT false))],[.var (blk p4) [.sl 3 (List.map zl x1.2.1.fRows),dT x1.2.1.fTail,dN x1.2.1.fEnd] 31,.var (blk p17) [.sl 3 (List.map zl x16.fRows),dT x16.fTail,dN x16.fEnd] 31],189⟩) (fun _ h=>h) ?_ ?_
 ·obtain⟨x42,hx42,ht40⟩:=bS ht40;rcases z9 ht40 with ⟨c43,ht40⟩|⟨c43,ht40⟩;rotate_left
  ·refine yr zV [.agg [.sl 3 (List.map zl x1.2.1.fRows),dT x1.2.1.fTail,dN x1.2.1.fEnd],dN x39,dT x42,dT (!x42),dT (!x42),.tup [],.tup [],.tup [],.tup [],.tup [],.tup [],.tup [],.tup [],.tup [],.tup [],.tup [],.tup [],.tup [],.tup [],.tup [],dT true] [6,9,12,17,18,19,20,21,108,109,110,135] (by decide +kernel) Z ?_ Z ?_;rotate_left
   ·obtain rfl:=osi ht40;exact⟨_,Gst.only [6,9,12,17,18,19,20,21,108,109,110,135] Z,Z⟩
   refine zw.yes (Want.plain Z) Z (z7 0 Z Z Z Z) ?_;refine aB Z Z Z ?_;refine zw.yes (Want.plain Z) Z (zh fn64 (pf hx42) Z) ?_;iterate 2 refine aB rfl rfl rfl ?_
   refine zw.no (Want.bool rfl rfl rfl rfl (by rw[(zR (eN c43))]; rfl)) rfl ?_;refine zw.no (Want.bool rfl rfl rfl rfl (by rw[(zR (eN c43))]; rfl)) rfl ?_;refine zw.no (Want.bool rfl rfl rfl rfl (by rw[(zR (eN c43))]; rfl)) rfl ?_;refine zw.no (Want.bool rfl rfl rfl rfl (by rw[(zR (eN c43))]; rfl)) rfl ?_;refine zw.no (Want.bool rfl rfl rfl rfl (by rw[(zR (eN c43))]; rfl)) rfl ?_;refine zw.no (Want.bool rfl rfl rfl rfl (by rw[(zR (eN c43))]; rfl)) rfl ?_;refine zw.no (Want.bool rfl rfl rfl rfl (by rw[(zR (eN c43))]; rfl)) rfl ?_;refine zw.no (Want.bool rfl rfl rfl rfl (by rw[(zR (eN c43))]; rfl)) rfl ?_;refine zw.no (Want.bool rfl rfl rfl rfl (by rw[(zR (eN c43))]; rfl)) rfl ?_;refine zw.no (Want.bool rfl rfl rfl rfl (by rw[(zR (eN c43))]; rfl)) rfl ?_;refine zw.no (Want.bool rfl rfl rfl rfl (by rw[(zR (eN c43))]; rfl)) rfl ?_;refine zw.no (Want.bool rfl rfl rfl rfl (by rw[(zR (eN c43))]; rfl)) rfl ?_;refine zw.no (Want.bool rfl rfl rfl rfl (by rw[(zR (eN c43))]; rfl)) rfl ?_;refine zw.no (Want.bool rfl rfl rfl rfl (by rw[(zR (eN c43))]; rfl)) rfl ?_;refine zw.no (Want.bool rfl rfl rfl rfl (by rw[(zR (eN c43))]; rfl)) rfl ?_;refine zw.yes (Want.plain Z) Z (zt Z (zR (eN c43)) Z) ?_;exact zw.nil
  obtain⟨x44,hx44,ht40⟩:=bS ht40;obtain⟨x45,hx45,ht40⟩:=bS ht40;obtain⟨x46,hx46,ht40⟩:=bS ht40;obtain⟨x47,hx47,ht40⟩:=bS ht40;refine yr zV [.agg [.sl 3 (List.map zl x1.2.1.fRows),dT x1.2.1.fTail,dN x1.2.1.fEnd],dN x39,dT x42,dT (!x42),dT (!x42),dP (blk p17),.sl 3 (List.map zl x16.fRows),.sl 1 (List.map (eI .i64) x18),dN s30,.nod [dN x44],dN x44,.nod [.sl 3 (List.map zB x45.fCells),dN x45.fEnd,dT x45.fHidden],.agg [.sl 3 (List.map zB x45.fCells),dN x45.fEnd,dT x45.fHidden],dP (blk p4),.sl 3 (List.map zl x1.2.1.fRows),dN x39,.nod [.sl 3 (List.map zB x46.fCells),dN x46.fEnd,dT x46.fHidden],.agg [.sl 3 (List.map zB x46.fCells),dN x46.fEnd,dT x46.fHidden],dT x47,dT (!x47),dT (!x47)] [6,9,12,17,18,19,20,21,108,109,110,135] (by decide +kernel) Z ?_ Z ?_;rotate_left
  ·obtain rfl:=osi ht40;exact⟨_,Gst.only [6,9,12,17,18,19,20,21,108,109,110,135] Z,Z⟩
  refine zw.yes (Want.plain Z) Z (z7 0 Z Z Z Z) ?_;refine aB Z Z Z ?_;refine zw.yes (Want.plain Z) Z (zh fn64 (pf hx42) Z) ?_;iterate 2 refine aB rfl rfl rfl ?_
  refine zw.yes (Want.bool rfl rfl rfl rfl (by rw[(zQ (c43))]; rfl)) rfl (OpR.pure rfl) ?_;refine zw.yes (Want.bool rfl rfl rfl rfl (by rw[(zQ (c43))]; rfl)) rfl (z7 1 rfl rfl rfl rfl) ?_;refine zw.yes (Want.bool rfl rfl rfl rfl (by rw[(zQ (c43))]; rfl)) rfl (OpR.pure rfl) ?_;refine zw.yes (Want.bool rfl rfl rfl rfl (by rw[(zQ (c43))]; rfl)) rfl (OpR.pure rfl) ?_;refine zw.yes (Want.bool rfl rfl rfl rfl (by rw[(zQ (c43))]; rfl)) rfl (zp (eI .i64) hx44 rfl rfl rfl rfl rfl) ?_;refine zw.yes (Want.bool rfl rfl rfl rfl (by rw[(zQ (c43))]; rfl)) rfl (OpR.pure rfl) ?_;refine zw.yes (Want.bool rfl rfl rfl rfl (by rw[(zQ (c43))]; rfl)) rfl (zp zl hx45 rfl rfl rfl rfl rfl) ?_;refine zw.yes (Want.bool rfl rfl rfl rfl (by rw[(zQ (c43))]; rfl)) rfl (OpR.pure rfl) ?_;refine zw.yes (Want.bool rfl rfl rfl rfl (by rw[(zQ (c43))]; rfl)) rfl (OpR.pure rfl) ?_;refine zw.yes (Want.bool rfl rfl rfl rfl (by rw[(zQ (c43))]; rfl)) rfl (z7 0 rfl rfl rfl rfl) ?_;refine zw.yes (Want.bool rfl rfl rfl rfl (by rw[(zQ (c43))]; rfl)) rfl (OpR.pure rfl) ?_;refine zw.yes (Want.bool rfl rfl rfl rfl (by rw[(zQ (c43))]; rfl)) rfl (zp zl hx46 rfl rfl rfl rfl rfl) ?_;refine zw.yes (Want.bool rfl rfl rfl rfl (by rw[(zQ (c43))]; rfl)) rfl (OpR.pure rfl) ?_;refine zw.yes (Want.bool rfl rfl rfl rfl (by rw[(zQ (c43))]; rfl)) rfl (zh fn65 (ref08_Same_c hx47) rfl) ?_;refine zw.yes (Want.bool rfl rfl rfl rfl (by rw[(zQ (c43))]; rfl)) rfl (OpR.pure rfl) ?_;refine zw.yes (Want.plain Z) Z (zx Z (zQ (c43)) Z) ?_;exact zw.nil
 rintro _ rfl;show T X _ _ _;rcases z9 q34 with ⟨c48,q34⟩|⟨c48,q34⟩
 ·refine zf Z (c48) ?_;refine aS ?_;refine aA Z Z ?_;refine aN Z ?_;refine T.ret ?_;obtain rfl:=osi q34;obtain rfl:_=_:=i35;obtain rfl:=osi h0;exact rP [] [6] [] Z Z Z undef (cT Z ResL.nil) Z Z Z Z
 refine ze Z (eN c48) ?_;refine aK Z ?_;refine T.seq ?_;obtain⟨t49,ht49,q34⟩:=bS q34;refine zA (fun S'=>S'=⟨[(165,(dT t49)),(110,(dN s30)),(109,(dN (x15.length:Int))),(108,.sl 1 (List.map (eI .i64) x15)),(19,.sl 1 (List.map (eI .i64) x18)),(18,(dP (blk p17))),(17,.sl 1 (List.map (eI .i64) x15)),(12,.sl 2 (List.map yv x5.2)),(9,(dP (blk p4))),(6,(dT false))],[.var (blk p4) [.sl 3 (List.map zl x1.2.1.fRows),dT x1.2.1.fTail,dN x1.2.1.fEnd] 31,.var (blk p17) [.sl 3 (List.map zl x16.fRows),dT x16.fTail,dN x16.fEnd] 31],189⟩) (fun _ h=>h) ?_ ?_;rotate_left
 ·rintro _ rfl;show T X _ _ _;rcases z9 q34 with ⟨c57,q34⟩|⟨c57,q34⟩;rotate_left
  ·refine ze Z (eN c57) ?_;refine aK Z ?_;refine T.region ?_;iterate 2 refine aA rfl rfl ?_
   refine TL.nil ?_;obtain rfl:=osi q34;exact⟨m32,Nat.lt_succ_self _,_,Gst.only [6,9,12,17,18,19,108,109,110] Z,w64 (s30+1),Z,i35⟩
  refine zf Z (c57) ?_;refine aS ?_;refine aA Z Z ?_;refine aN Z ?_;refine T.ret ?_;obtain rfl:=osi q34;obtain rfl:_=_:=i35;obtain rfl:=osi h0;exact rP [] [6] [] Z Z Z undef (cT Z ResL.nil) Z Z Z Z
 rcases z9 ht49 with ⟨c51,ht49⟩|⟨c51,ht49⟩;rotate_left
 ·refine yr zV [dN s30,dT (decide (s30>0)),dT (decide (s30>0)),.tup [],.tup [],.tup [],.tup [],.tup [],.tup [],.tup [],.tup [],.tup [],.tup [],.tup [],.tup [],.tup [],.tup [],.tup [],.tup [],.tup [],dT false,dT false,.tup [],.tup [],.tup [],.tup [],.tup [],.tup [],.tup [],dT false] [6,9,12,17,18,19,108,109,110,165] (by decide +kernel) Z ?_ Z ?_;rotate_left
  ·obtain rfl:=osi ht49;exact⟨_,Gst.only [6,9,12,17,18,19,108,109,110,165] Z,Z⟩
  iterate 3 refine aB rfl rfl rfl ?_
  refine zw.no (Want.bool rfl rfl rfl rfl (by rw[(eF c51)]; rfl)) rfl ?_;refine zw.no (Want.bool rfl rfl rfl rfl (by rw[(eF c51)]; rfl)) rfl ?_;refine zw.no (Want.bool rfl rfl rfl rfl (by rw[(eF c51)]; rfl)) rfl ?_;refine zw.no (Want.bool rfl rfl rfl rfl (by rw[(eF c51)]; rfl)) rfl ?_;refine zw.no (Want.bool rfl rfl rfl rfl (by rw[(eF c51)]; rfl)) rfl ?_;refine zw.no (Want.bool rfl rfl rfl rfl (by rw[(eF c51)]; rfl)) rfl ?_;refine zw.no (Want.bool rfl rfl rfl rfl (by rw[(eF c51)]; rfl)) rfl ?_;refine zw.no (Want.bool rfl rfl rfl rfl (by rw[(eF c51)]; rfl)) rfl ?_;refine zw.no (Want.bool rfl rfl rfl rfl (by rw[(eF c51)]; rfl)) rfl ?_;refine zw.no (Want.bool rfl rfl rfl rfl (by rw[(eF c51)]; rfl)) rfl ?_;refine zw.no (Want.bool rfl rfl rfl rfl (by rw[(eF c51)]; rfl)) rfl ?_;refine zw.no (Want.bool rfl rfl rfl rfl (by rw[(eF c51)]; rfl)) rfl ?_;refine zw.no (Want.bool rfl rfl rfl rfl (by rw[(eF c51)]; rfl)) rfl ?_;refine zw.no (Want.bool rfl rfl rfl rfl (by rw[(eF c51)]; rfl)) rfl ?_;refine zw.no (Want.bool rfl rfl rfl rfl (by rw[(eF c51)]; rfl)) rfl ?_;refine zw.no (Want.bool rfl rfl rfl rfl (by rw[(eF c51)]; rfl)) rfl ?_;refine zw.no (Want.bool rfl rfl rfl rfl (by rw[(eF c51)]; rfl)) rfl ?_;refine zw.yes (Want.plain Z) Z (zx Z (eF c51) Z) ?_;refine aB Z Z Z ?_;refine zw.no (Want.bool Z Z Z Z Z) Z ?_;refine zw.no (Want.bool Z Z Z Z Z) Z ?_;refine zw.no (Want.bool Z Z Z Z Z) Z ?_;refine zw.no (Want.bool Z Z Z Z Z) Z ?_;refine zw.no (Want.bool Z Z Z Z Z) Z ?_;refine zw.no (Want.bool Z Z Z Z Z) Z ?_;refine zw.no (Want.bool Z Z Z Z Z) Z ?_;refine zw.yes (Want.plain Z) Z (zx Z Z Z) ?_;exact zw.nil
 obtain⟨x52,hx52,ht49⟩:=bS ht49;obtain⟨x53,hx53,ht49⟩:=bS ht49;obtain⟨x54,hx54,ht49⟩:=bS ht49;obtain⟨x55,hx55,ht49⟩:=bS ht49;rcases z9 ht49 with ⟨c56,ht49⟩|⟨c56,ht49⟩;rotate_left
 ·refine yr zV [dN s30,dT (decide (s30>0)),dT (decide (s30>0)),dP (blk p4),.sl 3 (List.map zl x1.2.1.fRows),.sl 1 (List.map (eI .i64) x15),dN s30,dN (w64 (s30-1)),.nod [dN x52],dN x52,.nod [.sl 3 (List.map zB x53.fCells),dN x53.fEnd,dT x53.fHidden],.agg [.sl 3 (List.map zB x53.fCells),dN x53.fEnd,dT x53.fHidden],dP (blk p4),.sl 3 (List.map zl x1.2.1.fRows),dN x39,.nod [.sl 3 (List.map zB x54.fCells),dN x54.fEnd,dT x54.fHidden],.agg [.sl 3 (List.map zB x54.fCells),dN x54.fEnd,dT x54.fHidden],.sl 2 (List.map yv x5.2),dN x55,dT (x55==0),dT (x55==0),dT (x55==0),.tup [],.tup [],.tup [],.tup [],.tup [],.tup [],.tup [],dT false] [6,9,12,17,18,19,108,109,110,165] (by decide +kernel) Z ?_ Z ?_;rotate_left
  ·obtain rfl:=osi ht49;exact⟨_,Gst.only [6,9,12,17,18,19,108,109,110,165] Z,Z⟩
  iterate 3 refine aB rfl rfl rfl ?_
  refine zw.yes (Want.bool rfl rfl rfl rfl (by rw[(eT c51)]; rfl)) rfl (OpR.pure rfl) ?_;refine zw.yes (Want.bool rfl rfl rfl rfl (by rw[(eT c51)]; rfl)) rfl (z7 0 rfl rfl rfl rfl) ?_;refine zw.yes (Want.bool rfl rfl rfl rfl (by rw[(eT c51)]; rfl)) rfl (OpR.pure rfl) ?_;refine zw.yes (Want.bool rfl rfl rfl rfl (by rw[(eT c51)]; rfl)) rfl (OpR.pure rfl) ?_;refine zw.yes (Want.bool rfl rfl rfl rfl (by rw[(eT c51)]; rfl)) rfl (OpR.pure rfl) ?_;refine zw.yes (Want.bool rfl rfl rfl rfl (by rw[(eT c51)]; rfl)) rfl (zp (eI .i64) hx52 rfl rfl rfl rfl rfl) ?_;refine zw.yes (Want.bool rfl rfl rfl rfl (by rw[(eT c51)]; rfl)) rfl (OpR.pure rfl) ?_;refine zw.yes (Want.bool rfl rfl rfl rfl (by rw[(eT c51)]; rfl)) rfl (zp zl hx53 rfl rfl rfl rfl rfl) ?_;refine zw.yes (Want.bool rfl rfl rfl rfl (by rw[(eT c51)]; rfl)) rfl (OpR.pure rfl) ?_;refine zw.yes (Want.bool rfl rfl rfl rfl (by rw[(eT c51)]; rfl)) rfl (OpR.pure rfl) ?_;refine zw.yes (Want.bool rfl rfl rfl rfl (by rw[(eT c51)]; rfl)) rfl (z7 0 rfl rfl rfl rfl) ?_;refine zw.yes (Want.bool rfl rfl rfl rfl (by rw[(eT c51)]; rfl)) rfl (OpR.pure rfl) ?_;refine zw.yes (Want.bool rfl rfl rfl rfl (by rw[(eT c51)]; rfl)) rfl (zp zl hx54 rfl rfl rfl rfl rfl) ?_;refine zw.yes (Want.bool rfl rfl rfl rfl (by rw[(eT c51)]; rfl)) rfl (OpR.pure rfl) ?_;refine zw.yes (Want.bool rfl rfl rfl rfl (by rw[(eT c51)]; rfl)) rfl (OpR.pure rfl) ?_;refine zw.yes (Want.bool rfl rfl rfl rfl (by rw[(eT c51)]; rfl)) rfl (zh fn66 (qv hx55) rfl) ?_;refine zw.yes (Want.bool rfl rfl rfl rfl (by rw[(eT c51)]; rfl)) rfl (OpR.pure rfl) ?_;refine zw.yes (Want.plain Z) Z (zt Z (eT c51) Z) ?_;refine aB Z Z Z ?_;refine zw.no (Want.bool rfl rfl rfl rfl (by rw[(beq_eq_false_iff_ne.2 c56)]; rfl)) rfl ?_;refine zw.no (Want.bool rfl rfl rfl rfl (by rw[(beq_eq_false_iff_ne.2 c56)]; rfl)) rfl ?_;refine zw.no (Want.bool rfl rfl rfl rfl (by rw[(beq_eq_false_iff_ne.2 c56)]; rfl)) rfl ?_;refine zw.no (Want.bool rfl rfl rfl rfl (by rw[(beq_eq_false_iff_ne.2 c56)]; rfl)) rfl ?_;refine zw.no (Want.bool rfl rfl rfl rfl (by rw[(beq_eq_false_iff_ne.2 c56)]; rfl)) rfl ?_;refine zw.no (Want.bool rfl rfl rfl rfl (by rw[(beq_eq_false_iff_ne.2 c56)]; rfl)) rfl ?_;refine zw.no (Want.bool rfl rfl rfl rfl (by rw[(beq_eq_false_iff_ne.2 c56)]; rfl)) rfl ?_;refine zw.yes (Want.plain Z) Z (zx Z (beq_eq_false_iff_ne.2 c56) Z) ?_;exact zw.nil
 refine yr zV [dN s30,dT (decide (s30>0)),dT (decide (s30>0)),dP (blk p4),.sl 3 (List.map zl x1.2.1.fRows),.sl 1 (List.map (eI .i64) x15),dN s30,dN (w64 (s30-1)),.nod [dN x52],dN x52,.nod [.sl 3 (List.map zB x53.fCells),dN x53.fEnd,dT x53.fHidden],.agg [.sl 3 (List.map zB x53.fCells),dN x53.fEnd,dT x53.fHidden],dP (blk p4),.sl 3 (List.map zl x1.2.1.fRows),dN x39,.nod [.sl 3 (List.map zB x54.fCells),dN x54.fEnd,dT x54.fHidden],.agg [.sl 3 (List.map zB x54.fCells),dN x54.fEnd,dT x54.fHidden],.sl 2 (List.map yv x5.2),dN x55,dT (x55==0),dT (x55==0),dT (x55==0),.sl 1 (List.map (eI .i64) x15),dN s30,dN (w64 (s30-1)),.nod [dN x52],dN x52,dN x39,dT (decide (x52≥x39)),dT (decide (x52≥x39))] [6,9,12,17,18,19,108,109,110,165] (by decide +kernel) Z ?_ Z ?_;rotate_left
 ·obtain rfl:=osi ht49;exact⟨_,Gst.only [6,9,12,17,18,19,108,109,110,165] Z,Z⟩
 iterate 3 refine aB rfl rfl rfl ?_
 refine zw.yes (Want.bool rfl rfl rfl rfl (by rw[(eT c51)]; rfl)) rfl (OpR.pure rfl) ?_;refine zw.yes (Want.bool rfl rfl rfl rfl (by rw[(eT c51)]; rfl)) rfl (z7 0 rfl rfl rfl rfl) ?_;refine zw.yes (Want.bool rfl rfl rfl rfl (by rw[(eT c51)]; rfl)) rfl (OpR.pure rfl) ?_;refine zw.yes (Want.bool rfl rfl rfl rfl (by rw[(eT c51)]; rfl)) rfl (OpR.pure rfl) ?_;refine zw.yes (Want.bool rfl rfl rfl rfl (by rw[(eT c51)]; rfl)) rfl (OpR.pure rfl) ?_;refine zw.yes (Want.bool rfl rfl rfl rfl (by rw[(eT c51)]; rfl)) rfl (zp (eI .i64) hx52 rfl rfl rfl rfl rfl) ?_;refine zw.yes (Want.bool rfl rfl rfl rfl (by rw[(eT c51)]; rfl)) rfl (OpR.pure rfl) ?_;refine zw.yes (Want.bool rfl rfl rfl rfl (by rw[(eT c51)]; rfl)) rfl (zp zl hx53 rfl rfl rfl rfl rfl) ?_;refine zw.yes (Want.bool rfl rfl rfl rfl (by rw[(eT c51)]; rfl)) rfl (OpR.pure rfl) ?_;refine zw.yes (Want.bool rfl rfl rfl rfl (by rw[(eT c51)]; rfl)) rfl (OpR.pure rfl) ?_;refine zw.yes (Want.bool rfl rfl rfl rfl (by rw[(eT c51)]; rfl)) rfl (z7 0 rfl rfl rfl rfl) ?_;refine zw.yes (Want.bool rfl rfl rfl rfl (by rw[(eT c51)]; rfl)) rfl (OpR.pure rfl) ?_;refine zw.yes (Want.bool rfl rfl rfl rfl (by rw[(eT c51)]; rfl)) rfl (zp zl hx54 rfl rfl rfl rfl rfl) ?_;refine zw.yes (Want.bool rfl rfl rfl rfl (by rw[(eT c51)]; rfl)) rfl (OpR.pure rfl) ?_;refine zw.yes (Want.bool rfl rfl rfl rfl (by rw[(eT c51)]; rfl)) rfl (OpR.pure rfl) ?_;refine zw.yes (Want.bool rfl rfl rfl rfl (by rw[(eT c51)]; rfl)) rfl (zh fn66 (qv hx55) rfl) ?_;refine zw.yes (Want.bool rfl rfl rfl rfl (by rw[(eT c51)]; rfl)) rfl (OpR.pure rfl) ?_;refine zw.yes (Want.plain Z) Z (zt Z (eT c51) Z) ?_;refine aB Z Z Z ?_;refine zw.yes (Want.bool rfl rfl rfl rfl (by rw[(beq_iff_eq.2 c56)]; rfl)) rfl (OpR.pure rfl) ?_;refine zw.yes (Want.bool rfl rfl rfl rfl (by rw[(beq_iff_eq.2 c56)]; rfl)) rfl (OpR.pure rfl) ?_;refine zw.yes (Want.bool rfl rfl rfl rfl (by rw[(beq_iff_eq.2 c56)]; rfl)) rfl (OpR.pure rfl) ?_;refine zw.yes (Want.bool rfl rfl rfl rfl (by rw[(beq_iff_eq.2 c56)]; rfl)) rfl (zp (eI .i64) hx52 rfl rfl rfl rfl rfl) ?_;refine zw.yes (Want.bool rfl rfl rfl rfl (by rw[(beq_iff_eq.2 c56)]; rfl)) rfl (OpR.pure rfl) ?_;refine zw.yes (Want.bool rfl rfl rfl rfl (by rw[(beq_iff_eq.2 c56)]; rfl)) rfl (OpR.pure rfl) ?_;refine zw.yes (Want.bool rfl rfl rfl rfl (by rw[(beq_iff_eq.2 c56)]; rfl)) rfl (OpR.pure rfl) ?_;refine zw.yes (Want.plain Z) Z (zt Z (beq_iff_eq.2 c56) Z) ?_;exact zw.nil
end Go.Proofs.YtpmhiiemklhbhaaGreat.S
