import Derived.Test.YtpmhiiemklhbhaaGreatG0
set_option maxHeartbeats 4000000
set_option linter.unusedVariables false
set_option linter.unusedSimpArgs false
set_option maxRecDepth 20000
namespace Go.Proofs.YtpmhiiemklhbhaaGreat.S
open Go Go.Sm
attribute [local irreducible] T TL OpR CallT wo loop
noncomputable def sm (a0:List UInt8) (a1:Int):Option (List UInt8):=
 if (a0.length:Int)>a1 then
 bnd (cut a0 0 a1) fun x2=>
 some x2
else
 some a0
theorem law11_Cut_c {a0:List UInt8} {a1:Int} {res:(List UInt8)} (h0:sm a0 a1=some res):zo X 15 [.val (.string (bs a0)),dN a1] [] (fun x=>.val (.string (bs res))) (fun x=>[]):=by
 unfold sm at h0;refine zb (X:=X) Z Tryz.func15 Z Z Tryz.ntmps15 Z Z ?_;refine aS ?_;refine aA Z Z ?_;refine aN Z ?_;refine T.seq ?_;refine aS ?_;refine aA Z Z ?_;refine z6 (zk (OpR.pure Z) (xn (lenS _))) Z ?_;iterate 2 refine aA rfl rfl ?_
 refine aN Z ?_;rcases z9 h0 with ⟨c1,h0⟩|⟨c1,h0⟩;rotate_left
 ·refine ze Z (eF c1) ?_;refine aK Z ?_;refine aS ?_;iterate 2 refine aA rfl rfl ?_
  refine aN Z ?_;refine T.ret ?_;obtain rfl:=osi h0;exact rO [] [4] Z undef (cT Z ResL.nil) Z Z Z Z
 refine zf Z (eT c1) ?_;refine aS ?_;iterate 2 refine aA rfl rfl ?_
 obtain⟨x2,hx2,h0⟩:=bS h0;refine z6 (rl hx2 Z Z Z BdM.none (BdM.some Z)) Z ?_;refine aA Z Z ?_;refine aN Z ?_;refine T.ret ?_;obtain rfl:=osi h0;exact rO [] [4] Z undef (cT Z ResL.nil) Z Z Z Z
noncomputable def sn (a0:List UInt8):Option (Int ⊕ (Int × (List UInt8))):=
 if (a0.length:Int)>4096 then
 some (Sum.inl 8)
else
 bnd (mkz 1 (a0.length:Int) (0:UInt8)) fun x2=>
 some (Sum.inr (0,(over x2 a0)))
theorem arena_New_c {a0:List UInt8} {res:Int ⊕ (Int × (List UInt8))} (h0:sn a0=some res):zo X 128 [.sl 1 (lB a0)] [] (fun x=>(match res with | .inl res=>.tup [dQ,dN res] | .inr res=>.tup [dP (blk (vn x 0)),dN res.1])) (fun x=>(match res with | .inl res=>[] | .inr res=>[.var (blk (vn x 0)) [.val (vn x 1)] 264,.row (vn x 1) (lB res.2) 1 5])):=by
 unfold sn at h0;refine zb (X:=X) Z Tryz.func128 Z Z Tryz.ntmps128 Z Z ?_;refine aS ?_;iterate 2 refine aA rfl rfl ?_
 refine aN Z ?_;refine T.seq ?_;refine aS ?_;refine aA Z Z ?_;refine z6 (zk (OpR.pure Z) (xn (w9 _ _))) Z ?_;refine aA Z Z ?_;refine aN Z ?_;rcases z9 h0 with ⟨c1,h0⟩|⟨c1,h0⟩
 ·refine zf Z (eT c1) ?_;refine aS ?_;iterate 2 refine aA rfl rfl ?_
  refine aN Z ?_;refine T.ret ?_;obtain rfl:=osi h0;exact rO [] [2,3] Z undef (cT Z (cT Z ResL.nil)) Z Z Z Z
 refine ze Z (eF c1) ?_;refine aK Z ?_;refine aS ?_;refine aA Z Z ?_;refine z6 (zk (OpR.pure Z) (xn (w9 _ _))) Z ?_;obtain⟨x2,hx2,h0⟩:=bS h0;refine TL.op (qp ww hx2 Z Z Z Z Z Z Z Z Z Z Z (fun _=>Z)) Z (fun v3=>?_);refine z6 (OpR.build Z Z Z Z Z) Z ?_;refine TL.op (xG Z Z (fun _=>Z)) Z (fun p4=>?_);refine aA Z Z ?_;refine aN Z ?_;refine aS ?_;iterate 3 refine aA rfl rfl ?_
 refine z6 (z7 1 Z Z Z Z) Z ?_;refine aA Z Z ?_;refine z6 (OpR.copyM ww 0 Z Z Z Z Z Z Z Z) Z ?_;refine aN Z ?_;refine aS ?_;iterate 3 refine aA rfl rfl ?_
 refine aN Z ?_;refine T.ret ?_;obtain rfl:=osi h0;exact rP [0,1] [2,3] [1,0] Z Z Z (.tuple #[p4,v3]) (cT Z (cT Z ResL.nil)) Z Z Z Z
theorem arena_New_cx1 {a0:List UInt8} {res:Int} (h0:sn a0=some (Sum.inl res)):zo X 128 [.sl 1 (lB a0)] [] (fun x=>.tup [dQ,dN res]) (fun x=>[]):=arena_New_c h0
theorem arena_New_cx2 {a0:List UInt8} {res:Int × (List UInt8)} (h0:sn a0=some (Sum.inr res)):zo X 128 [.sl 1 (lB a0)] [] (fun x=>.tup [dP (blk (vn x 0)),dN res.1]) (fun x=>[.var (blk (vn x 0)) [.val (vn x 1)] 264,.row (vn x 1) (lB res.2) 1 5]):=arena_New_c h0
noncomputable def xK (a0:List UInt8) (a1:Int):Option Bool:=
 some (decide (a1≥(a0.length:Int)))
theorem wB {a0:List UInt8} {a1:Int} {b0:Nat} {res:Bool} (h0:xK a0 a1=some res):zo X 192 [dP b0] [.var b0 [.sl 1 (lB a0),dN a1] 267] (fun x=>(dT res)) (fun x=>[.var b0 [.sl 1 (lB a0),dN a1] 267]):=by
 unfold xK at h0;refine zb (X:=X) Z Tryz.func192 Z Z Tryz.ntmps192 Z Z ?_;refine aS ?_;refine aA Z Z ?_;refine aN Z ?_;refine T.seq ?_;refine yr zV [dP b0,dP b0,.val (.pointer (some ⟨b0,1,none⟩)),dN a1,dP b0,dP b0,dP b0,.sl 1 (lB a0),dN (a0.length:Int),dT (decide (a1≥(a0.length:Int))),dT (decide (a1≥(a0.length:Int)))] [2] (by decide +kernel) Z ?_ Z ?_;rotate_left
 ·show T X _ _ _;refine T.ret ?_;obtain rfl:=osi h0;exact rO [0] [2] Z undef (cT Z ResL.nil) Z Z Z Z
 iterate 3 refine aB rfl rfl rfl ?_
 refine zw.yes (Want.plain Z) Z (z7 0 Z Z Z Z) ?_;iterate 3 refine aB rfl rfl rfl ?_
 refine zw.yes (Want.plain Z) Z (z7 0 Z Z Z Z) ?_;refine zw.yes (Want.plain Z) Z (zk (OpR.pure Z) (xn (w9 _ _))) ?_;iterate 2 refine aB rfl rfl rfl ?_
 exact zw.nil
noncomputable def xv (a0:UInt8) (a1:List UInt8) (a2:Int):Option Bool:=
 bnd (bnd (xK a1 a2) fun x3=>
 if x3=true then
 some false
else
 bnd (idx a1 a2) fun x5=>
 some ((x5.toNat:Int)==(a0.toNat:Int)):Option Bool) fun t1=>
 some t1
theorem xY {a0:UInt8} {a1:List UInt8} {a2:Int} {b0:Nat} {res:Bool} (h0:xv a0 a1 a2=some res):zo X 226 [dP b0,.val (.int .u8 (a0.toNat:Int))] [.var b0 [.sl 1 (lB a1),dN a2] 267] (fun x=>(dT res)) (fun x=>[.var b0 [.sl 1 (lB a1),dN a2] 267]):=by
 unfold xv at h0;refine zb (X:=X) Z Tryz.func226 Z Z Tryz.ntmps226 Z Z ?_;refine aS ?_;refine aA Z Z ?_;refine aN Z ?_;refine T.seq ?_;obtain⟨t1,ht1,h0⟩:=bS h0;refine zA (fun S'=>S'=⟨[(4,(dT t1))],[.var b0 [.sl 1 (lB a1),dN a2] 267],22⟩) (fun _ h=>h) ?_ ?_;rotate_left
 ·rintro _ rfl;show T X _ _ _;refine T.ret ?_;obtain rfl:=osi h0;exact rO [0] [4] Z undef (cT Z ResL.nil) Z Z Z Z
 obtain⟨x3,hx3,ht1⟩:=bS ht1;rcases z9 ht1 with ⟨c4,ht1⟩|⟨c4,ht1⟩
 ·refine yr zV [dP b0,dT x3,dT (!x3),dT (!x3),.tup [],.tup [],.tup [],.tup [],.tup [],.tup [],.tup [],.tup [],.tup [],.tup [],.tup [],.tup [],dT false,dT false] [4] (by decide +kernel) Z ?_ Z ?_;rotate_left
  ·obtain rfl:=osi ht1;exact⟨_,Gst.only [4] Z,Z⟩
  refine aB Z Z Z ?_;refine zw.yes (Want.plain Z) Z (OpR.call [0] fn192 (wB hx3) Z Z Z (fun _=>Z)) ?_;iterate 2 refine aB rfl rfl rfl ?_
  refine zw.no (Want.bool rfl rfl rfl rfl (by rw[(zQ (c4))]; rfl)) rfl ?_;refine zw.no (Want.bool rfl rfl rfl rfl (by rw[(zQ (c4))]; rfl)) rfl ?_;refine zw.no (Want.bool rfl rfl rfl rfl (by rw[(zQ (c4))]; rfl)) rfl ?_;refine zw.no (Want.bool rfl rfl rfl rfl (by rw[(zQ (c4))]; rfl)) rfl ?_;refine zw.no (Want.bool rfl rfl rfl rfl (by rw[(zQ (c4))]; rfl)) rfl ?_;refine zw.no (Want.bool rfl rfl rfl rfl (by rw[(zQ (c4))]; rfl)) rfl ?_;refine zw.no (Want.bool rfl rfl rfl rfl (by rw[(zQ (c4))]; rfl)) rfl ?_;refine zw.no (Want.bool rfl rfl rfl rfl (by rw[(zQ (c4))]; rfl)) rfl ?_;refine zw.no (Want.bool rfl rfl rfl rfl (by rw[(zQ (c4))]; rfl)) rfl ?_;refine zw.no (Want.bool rfl rfl rfl rfl (by rw[(zQ (c4))]; rfl)) rfl ?_;refine zw.no (Want.bool rfl rfl rfl rfl (by rw[(zQ (c4))]; rfl)) rfl ?_;refine zw.no (Want.bool rfl rfl rfl rfl (by rw[(zQ (c4))]; rfl)) rfl ?_;refine zw.yes (Want.plain Z) Z (zx Z (zQ (c4)) Z) ?_;refine aB Z Z Z ?_;exact zw.nil
 obtain⟨x5,hx5,ht1⟩:=bS ht1;refine yr zV [dP b0,dT x3,dT (!x3),dT (!x3),dP b0,dP b0,dP b0,.sl 1 (lB a1),dP b0,dP b0,.val (.pointer (some ⟨b0,1,none⟩)),dN a2,.nod [.val (.int .u8 (x5.toNat:Int))],.val (.int .u8 (x5.toNat:Int)),.val (.int .u8 (a0.toNat:Int)),dT ((x5.toNat:Int)==(a0.toNat:Int)),dT ((x5.toNat:Int)==(a0.toNat:Int)),dT ((x5.toNat:Int)==(a0.toNat:Int))] [4] (by decide +kernel) Z ?_ Z ?_;rotate_left
 ·obtain rfl:=osi ht1;exact⟨_,Gst.only [4] Z,Z⟩
 refine aB Z Z Z ?_;refine zw.yes (Want.plain Z) Z (OpR.call [0] fn192 (wB hx3) Z Z Z (fun _=>Z)) ?_;iterate 2 refine aB rfl rfl rfl ?_
 refine zw.yes (Want.bool rfl rfl rfl rfl (by rw[(zR (eN c4))]; rfl)) rfl (OpR.pure rfl) ?_;refine zw.yes (Want.bool rfl rfl rfl rfl (by rw[(zR (eN c4))]; rfl)) rfl (OpR.pure rfl) ?_;refine zw.yes (Want.bool rfl rfl rfl rfl (by rw[(zR (eN c4))]; rfl)) rfl (OpR.pure rfl) ?_;refine zw.yes (Want.bool rfl rfl rfl rfl (by rw[(zR (eN c4))]; rfl)) rfl (z7 0 rfl rfl rfl rfl) ?_;refine zw.yes (Want.bool rfl rfl rfl rfl (by rw[(zR (eN c4))]; rfl)) rfl (OpR.pure rfl) ?_;refine zw.yes (Want.bool rfl rfl rfl rfl (by rw[(zR (eN c4))]; rfl)) rfl (OpR.pure rfl) ?_;refine zw.yes (Want.bool rfl rfl rfl rfl (by rw[(zR (eN c4))]; rfl)) rfl (OpR.pure rfl) ?_;refine zw.yes (Want.bool rfl rfl rfl rfl (by rw[(zR (eN c4))]; rfl)) rfl (z7 0 rfl rfl rfl rfl) ?_;refine zw.yes (Want.bool rfl rfl rfl rfl (by rw[(zR (eN c4))]; rfl)) rfl (zp ww hx5 rfl rfl rfl rfl rfl) ?_;refine zw.yes (Want.bool rfl rfl rfl rfl (by rw[(zR (eN c4))]; rfl)) rfl (OpR.pure rfl) ?_;refine zw.yes (Want.bool rfl rfl rfl rfl (by rw[(zR (eN c4))]; rfl)) rfl (OpR.pure rfl) ?_;refine zw.yes (Want.bool rfl rfl rfl rfl (by rw[(zR (eN c4))]; rfl)) rfl (OpR.pure rfl) ?_;refine zw.yes (Want.plain Z) Z (zt Z (zR (eN c4)) Z) ?_;refine aB Z Z Z ?_;exact zw.nil
noncomputable def sb (a0:arena_Span) (a1:arena_Span):Option (arena_Span × Bool):=
 bnd (if a0.fN<0 then
 some true
else
 if a1.fN<0 then
 some true
else
 some (!(a1==(⟨w64 (a0.fAt+a0.fN),a1.fN⟩:arena_Span))):Option Bool) fun t2=>
 if t2=true then
 some ((⟨0,0⟩:arena_Span),false)
else
 some ((⟨a0.fAt,w64 (a0.fN+a1.fN)⟩:arena_Span),true)
theorem arena_Join_c {a0:arena_Span} {a1:arena_Span} {res:arena_Span × Bool} (h0:sb a0 a1=some res):zo X 271 [.agg [dN a0.fAt,dN a0.fN],.agg [dN a1.fAt,dN a1.fN]] [] (fun x=>.tup [.agg [dN res.1.fAt,dN res.1.fN],dT res.2]) (fun x=>[]):=by
 unfold sb at h0;refine zb (X:=X) Z Tryz.func271 Z Z Tryz.ntmps271 Z Z ?_;refine aS ?_;refine z6 (zD Z Z) Z ?_;refine z6 (zD Z Z) Z ?_;refine TL.op (OpR.alloc Z Z (fun _=>Z)) Z (fun p1=>?_);refine aA Z Z ?_;refine aN Z ?_;refine T.seq ?_;refine T.seq ?_;obtain⟨t2,ht2,h0⟩:=bS h0;refine zA (fun S'=>S'=⟨[(25,(dT t2)),(5,(dT false)),(4,(dP (blk p1))),(3,.nod [dN a1.fAt,dN a1.fN]),(2,.nod [dN a0.fAt,dN a0.fN])],[.var (blk p1) [dN 0,dN 0] 142],35⟩) (fun _ h=>h) ?_ ?_;rotate_left
 ·rintro _ rfl;show T X _ _ _;rcases z9 h0 with ⟨c5,h0⟩|⟨c5,h0⟩
  ·refine zf Z (c5) ?_;refine aS ?_;refine z6 (OpR.build Z Z Z Z Z) Z ?_;refine zv (OpR.store 0 Z Z Z Z Z Z Z Z) ?_;refine aA Z Z ?_;refine aN Z ?_;refine T.ret ?_;obtain rfl:=osi h0;exact rO [] [4,5] Z undef (cV 0 Z Z Z Z (cT Z ResL.nil)) Z Z Z Z
  refine ze Z (eN c5) ?_;refine aK Z ?_;refine aS ?_;iterate 7 refine aA rfl rfl ?_
  refine z6 (OpR.build Z Z Z Z Z) Z ?_;refine zv (OpR.store 0 Z Z Z Z Z Z Z Z) ?_;refine aA Z Z ?_;refine aN Z ?_;refine T.ret ?_;obtain rfl:=osi h0;exact rO [] [4,5] Z undef (cV 0 Z Z Z Z (cT Z ResL.nil)) Z Z Z Z
 refine T.region ?_;iterate 4 refine aA rfl rfl ?_
 rcases z9 ht2 with ⟨c3,ht2⟩|⟨c3,ht2⟩
 ·refine TL.off Z Z Z Z (eT c3) Z Z ?_;refine TL.off Z Z Z Z (eT c3) Z Z ?_;refine TL.off Z Z Z Z (eT c3) Z Z ?_;refine z6 (zt Z (eT c3) Z) Z ?_;refine aA Z Z ?_;refine TL.off Z Z Z Z Z Z Z ?_;refine TL.off Z Z Z Z Z Z Z ?_;refine TL.off Z Z Z Z Z Z Z ?_;refine TL.off Z Z Z Z Z Z Z ?_;refine TL.off Z Z Z Z Z Z Z ?_;refine TL.off Z Z Z Z Z Z Z ?_;refine TL.off Z Z Z Z Z Z Z ?_;refine TL.off Z Z Z Z Z Z Z ?_;refine TL.off Z Z Z Z Z Z Z ?_;refine TL.off Z Z Z Z Z Z Z ?_;refine z6 (zt Z Z Z) Z ?_;refine TL.nil ?_;obtain rfl:=osi ht2;exact⟨_,Gst.only [2,3,4,5,25] Z,Z⟩
 refine TL.on Z Z Z Z (eF c3) ?_;refine aA Z Z ?_;refine TL.on Z Z Z Z (eF c3) ?_;refine aA Z Z ?_;refine TL.on Z Z Z Z (eF c3) ?_;refine aA Z Z ?_;refine z6 (zx Z (eF c3) Z) Z ?_;refine aA Z Z ?_;rcases z9 ht2 with ⟨c4,ht2⟩|⟨c4,ht2⟩
 ·refine TL.off Z Z Z Z (eT c4) Z Z ?_;refine TL.off Z Z Z Z (eT c4) Z Z ?_;refine TL.off Z Z Z Z (eT c4) Z Z ?_;refine TL.off Z Z Z Z (eT c4) Z Z ?_;refine TL.off Z Z Z Z (eT c4) Z Z ?_;refine TL.off Z Z Z Z (eT c4) Z Z ?_;refine TL.off Z Z Z Z (eT c4) Z Z ?_;refine TL.off Z Z Z Z (eT c4) Z Z ?_;refine TL.off Z Z Z Z (eT c4) Z Z ?_;refine TL.off Z Z Z Z (eT c4) Z Z ?_;refine z6 (zt Z (eT c4) Z) Z ?_;refine TL.nil ?_;obtain rfl:=osi ht2;exact⟨_,Gst.only [2,3,4,5,25] Z,Z⟩
 refine TL.on Z Z Z Z (eF c4) ?_;refine aA Z Z ?_;refine TL.on Z Z Z Z (eF c4) ?_;refine aA Z Z ?_;refine TL.on Z Z Z Z (eF c4) ?_;refine aA Z Z ?_;refine TL.on Z Z Z Z (eF c4) ?_;refine aA Z Z ?_;refine TL.on Z Z Z Z (eF c4) ?_;refine aA Z Z ?_;refine TL.on Z Z Z Z (eF c4) ?_;refine aA Z Z ?_;refine TL.on Z Z Z Z (eF c4) ?_;refine aA Z Z ?_;refine TL.on Z Z Z Z (eF c4) ?_;refine aA Z Z ?_;refine TL.on Z Z Z Z (eF c4) ?_;refine z6 (OpR.build Z Z Z Z Z) Z ?_;refine TL.on Z Z Z Z (eF c4) ?_;refine z6 (zk (OpR.neStruct Z Z Z Z Z (by kernel_rfl) (by kernel_rfl)) (boolE (congrArg (fun b=>!b) (beq_arena_Span a1 (⟨w64 (a0.fAt+a0.fN),a1.fN⟩:arena_Span))))) Z ?_;refine z6 (zx Z (eF c4) Z) Z ?_;refine TL.nil ?_;obtain rfl:=osi ht2;exact⟨_,Gst.only [2,3,4,5,25] Z,Z⟩
noncomputable def xZ (a0:Int) (a1:Int) (a2:List arena_Span):Option (List arena_Span):=
 if a1≤a0 then
 some a2
else
 bnd (if (w64 ((a2.length:Int)-1))≥0 then
 bnd (idx a2 (w64 ((a2.length:Int)-1))) fun x7=>
 bnd (sb x7 (⟨a0,w64 (a1-a0)⟩:arena_Span)) fun x8=>
 if x8.2=true then
 some (Ex.ret (a2.set (w64 ((a2.length:Int)-1)).toNat x8.1))
else
 some (Ex.brk ())
else
 some (Ex.brk ()):Option (Ex Unit (List arena_Span))) fun t3=>match t3 with
| .brk u4=>
 bnd (app 16 a2 [(⟨a0,w64 (a1-a0)⟩:arena_Span)]) fun x12=>
 some x12
| .ret u4=>some u4
theorem vT {a0:Int} {a1:Int} {a2:List arena_Span} {b0:Nat} {v1:Value} {res:(List arena_Span)} (h0:xZ a0 a1 a2=some res):zo X 269 [dP b0,dN a0,dN a1] [.var b0 [.val v1] 359,.row v1 (List.map zm a2) 2 142] (fun x=>.tup []) (fun x=>[.var b0 [.val (vn x 0)] 359,.row (vn x 0) (List.map zm res) 2 142]):=by
 unfold xZ at h0;refine zb (X:=X) Z Tryz.func269 Z Z Tryz.ntmps269 Z Z ?_;refine T.seq ?_;refine aS ?_;iterate 3 refine aA rfl rfl ?_
 refine aN Z ?_;rcases z9 h0 with ⟨c1,h0⟩|⟨c1,h0⟩
 ·refine zf Z (eT c1) ?_;refine T.ret ?_;obtain rfl:=osi h0;exact rO [0,1] [] Z (.tuple #[v1]) ResL.nil Z Z Z Z
 refine ze Z (eF c1) ?_;refine aK Z ?_;refine aS ?_;iterate 4 refine aA rfl rfl ?_
 refine z6 (OpR.build Z Z Z Z Z) Z ?_;refine TL.op (OpR.alloc Z Z (fun _=>Z)) Z (fun p2=>?_);refine zv (OpR.store 2 Z Z Z Z Z Z Z Z) ?_;refine aN Z ?_;refine T.seq ?_;refine aS ?_;iterate 2 refine aA rfl rfl ?_
 refine z6 (z7 0 Z Z Z Z) Z ?_;refine z6 (yH zm 1 Z Z Z Z) Z ?_;iterate 2 refine aA rfl rfl ?_
 refine aN Z ?_;refine aS ?_;iterate 2 refine aA rfl rfl ?_
 refine aN Z ?_;obtain⟨t3,ht3,h0⟩:=bS h0;refine zA (fun S'=>∃ u4,t3=Ex.brk u4∧S'=⟨[(6,(dP (blk p2))),(0,(dP b0))],[.var b0 [.val v1] 359,.row v1 (List.map zm a2) 2 142,.var (blk p2) [dN a0,dN (w64 (a1-a0))] 142],51⟩) (fun _ h=>h) ?_ ?_;rotate_left
 ·rintro _ ⟨u4,rfl,rfl⟩;show T X _ _ _;obtain⟨x12,hx12,h0⟩:=bS h0;refine yA zV (fun env11=>[dP b0,dP b0,dP b0,.val v1,.agg [dN a0,dN (w64 (a1-a0))],.sl 2 (List.map zm [(⟨a0,w64 (a1-a0)⟩:arena_Span)]),.val (env11 6),dP b0,.dead]) (fun D env11=>[(bif D 8 then .var b0 [.val (env11 6)] 359 else .var b0 [.val v1] 359),(bif D 6 then .row (env11 6) (List.map zm x12) 2 142 else .row v1 (List.map zm a2) 2 142),.var (blk p2) [dN a0,dN (w64 (a1-a0))] 142]) [0,0,2,6,0,16,62,127,255] [] _ (by decide +kernel) (by decide +kernel) (fun _=>Z) (fun _=>Z) ?_ (fun _=>Z) (fun _=>Z) ?_;rotate_left
  ·intro env11;obtain rfl:=osi h0;exact xg (ks:=[0,1]) (gP [] [0,1] Z Z Z) (.tuple #[(env11 6)]) ResL.nil Z Z Z Z
  iterate 3 refine aC ?_
  refine zi true ?_ (fun _ _ _ _ _ _ _=>Z) ?_
  ·intro D env11 hA;have e6:D 6=false:=hA.no 6 _ rfl rfl;have e8:D 8=false:=hA.no 8 _ rfl rfl;exact zK [(6,false),(8,false)] ⟨e6,e8,trivial⟩ (Want.plain Z) (z7 0 Z Z Z Z) (fun x=>Z) (fun x=>Z)
  refine oT (.agg [dN a0,dN (w64 (a1-a0))]) (fun _ _=>z7 2 Z Z Z Z) ?_;refine oT (.sl 2 (List.map zm [(⟨a0,w64 (a1-a0)⟩:arena_Span)])) (fun _ _=>yN Z Z Z Z Z Z Z) ?_;refine zi true ?_ (fun D hA env11 x j hj hD=>match j,hj,hD with|0,_,_=>Z|1,_,_=>Z|2,_,_=>Z|3,_,_=>Z|4,_,_=>Z|5,_,_=>Z|6,hj,_=>absurd Z hj|7,_,_=>Z|8,_,_=>Z|_+9,_,_=>Z) ?_
  ·intro D env11 hA;have e8:D 8=false:=hA.no 8 _ rfl rfl;exact zK [(8,false),(6,false)] ⟨e8,hA.me,trivial⟩ (Want.plain Z) (zM (m:=[(⟨a0,w64 (a1-a0)⟩:arena_Span)]) zm 1 hx12 Z Z Z Z Z Z Z Z Z (fun _=>Z)) (fun x=>Z) (fun x=>Z)
  refine aC ?_;refine zi true ?_ (fun _ _ _ _ _ _ _=>Z) ?_
  ·intro D env11 hA;have e6:D 6=true:=hA.yes 6 _ rfl rfl;exact zK [(6,true),(8,false)] ⟨e6,hA.me,trivial⟩ (Want.plain Z) (OpR.store 0 Z Z Z Z Z Z Z Z) (fun x=>Z) (fun x=>Z)
  exact trivial
 rcases z9 ht3 with ⟨c5,ht3⟩|⟨c5,ht3⟩;rotate_left
 ·refine ze Z (eF c5) ?_;refine T.skip ?_;obtain rfl:=osi ht3;exact⟨_,Gst.only [0,6] Z,_,Z,Z⟩
 refine zf Z (eT c5) ?_;refine T.seq ?_;obtain⟨x7,hx7,ht3⟩:=bS ht3;obtain⟨x8,hx8,ht3⟩:=bS ht3;refine yA zV (fun env6=>[dP b0,dP b0,.val v1,dN (w64 ((a2.length:Int)-1)),.val (.pointer (some ⟨blk v1,(w64 ((a2.length:Int)-1)).toNat*2,none⟩)),.agg [dN x7.fAt,dN x7.fN],.agg [dN a0,dN (w64 (a1-a0))],.tup [.agg [dN x8.1.fAt,dN x8.1.fN],dT x8.2],.tup [.agg [dN x8.1.fAt,dN x8.1.fN],dT x8.2],.agg [dN x8.1.fAt,dN x8.1.fN],dT x8.2,dP (blk (env6 11)),.dead,dT x8.2]) (fun D env6=>[.var b0 [.val v1] 359,.row v1 (List.map zm a2) 2 142,.var (blk p2) [dN a0,dN (w64 (a1-a0))] 142]++(bif D 11 then [(bif D 12 then .var (blk (env6 11)) [dN x8.1.fAt,dN x8.1.fN] 142 else .var (blk (env6 11)) [dN 0,dN 0] 142)] else [])) [0,1,3,0,15,31,0,127,255,511,511,0,3071,8191] [0,6,7,8,9] _ (by decide +kernel) (by decide +kernel) (fun _=>Z) (fun _=>Z) ?_ (fun _=>Z) (fun _=>Z) ?_;rotate_left
 ·intro env6;show T X _ _ _;refine aS ?_;refine aA Z Z ?_;refine aN Z ?_;rcases z9 ht3 with ⟨c9,ht3⟩|⟨c9,ht3⟩;rotate_left
  ·refine ze Z (eN c9) ?_;refine T.skip ?_;obtain rfl:=osi ht3;exact⟨_,gP [0,6] [0,1,2] Z Z Z,_,Z,Z⟩
  refine zf Z (c9) ?_;refine T.seq ?_;refine yA zV (fun env10=>[dP b0,dP b0,.val v1,dN (w64 ((a2.length:Int)-1)),.agg [dN x8.1.fAt,dN x8.1.fN],.val (.pointer (some ⟨blk v1,(w64 ((a2.length:Int)-1)).toNat*2,none⟩)),.dead]) (fun D env10=>[.var b0 [.val v1] 359,(bif D 6 then .row v1 (List.map zm (a2.set (w64 ((a2.length:Int)-1)).toNat x8.1)) 2 142 else .row v1 (List.map zm a2) 2 142),.var (blk p2) [dN a0,dN (w64 (a1-a0))] 142,.var (blk (env6 11)) [dN x8.1.fAt,dN x8.1.fN] 142]) [0,1,3,0,0,31,63] [0,6] _ (by decide +kernel) (by decide +kernel) (fun _=>Z) (fun _=>Z) ?_ (fun _=>Z) (fun _=>Z) ?_;rotate_left
  ·intro env10;show T X _ _ _;refine T.ret ?_;obtain rfl:=osi ht3;obtain rfl:=osi h0;exact rP [0,1] [] [0,1] Z Z Z (.tuple #[v1]) ResL.nil Z Z Z Z
  iterate 2 refine aC ?_
  refine oT (.val v1) (fun _ _=>z7 0 Z Z Z Z) ?_;refine aC ?_;refine oT (.agg [dN x8.1.fAt,dN x8.1.fN]) (fun _ _=>z7 3 Z Z Z Z) ?_;refine zi true ?_ (fun _ _ _ _ _ _ _=>Z) ?_
  ·intro D env10 hA;have e6:D 6=false:=hA.no 6 _ rfl rfl;exact zK [(6,false)] ⟨e6,trivial⟩ (Want.plain Z) (zO zm 1 hx7 Z Z Z Z Z Z Z) (fun x=>Z) (fun x=>Z)
  refine zi true ?_ (fun _ _ _ _ _ _ _=>Z) ?_
  ·intro D env10 hA;exact zK [(6,false)] ⟨hA.me,trivial⟩ (Want.plain Z) (yD (j:=w64 ((a2.length:Int)-1)) zm x8.1 1 hx7 Z Z Z Z Z Z Z Z Z) (fun x=>Z) (fun x=>Z)
  exact trivial
 iterate 2 refine aC ?_
 refine oT (.val v1) (fun _ _=>z7 0 Z Z Z Z) ?_;refine aC ?_;refine oT (.val (.pointer (some ⟨blk v1,(w64 ((a2.length:Int)-1)).toNat*2,none⟩))) (fun _ _=>zO zm 1 hx7 Z Z Z Z Z Z Z) ?_;refine oT (.agg [dN x7.fAt,dN x7.fN]) (fun _ _=>zH (j:=w64 ((a2.length:Int)-1)) zm 1 hx7 Z Z Z Z) ?_;refine oT (.agg [dN a0,dN (w64 (a1-a0))]) (fun _ _=>z7 2 Z Z Z Z) ?_;refine oT (.tup [.agg [dN x8.1.fAt,dN x8.1.fN],dT x8.2]) (fun _ _=>zh fn271 (arena_Join_c hx8) Z) ?_;iterate 3 refine aC ?_
 refine zi true ?_ (fun D hA env6 x j hj hD=>match j,hj,hD with|0,_,_=>Z|1,_,_=>Z|2,_,_=>Z|3,_,_=>Z|4,_,_=>Z|5,_,_=>Z|6,_,_=>Z|7,_,_=>Z|8,_,_=>Z|9,_,_=>Z|10,_,_=>Z|11,hj,_=>absurd Z hj|12,_,_=>Z|13,_,_=>Z|_+14,_,_=>Z) ?_
 ·intro D env6 hA;have e12:D 12=false:=hA.no 12 _ rfl rfl;exact zK [(12,false),(11,false)] ⟨e12,hA.me,trivial⟩ (Want.plain Z) (OpR.alloc Z Z (fun _=>Z)) (fun x=>Z) (fun x=>Z)
 refine zi true ?_ (fun _ _ _ _ _ _ _=>Z) ?_
 ·intro D env6 hA;have e11:D 11=true:=hA.yes 11 _ rfl rfl;exact zK [(11,true),(12,false)] ⟨e11,hA.me,trivial⟩ (Want.plain Z) (OpR.store 3 Z Z Z Z Z Z Z Z) (fun x=>Z) (fun x=>Z)
 refine aC ?_;exact trivial
noncomputable def vm (a0:List UInt8) (a1:Int):Option Bool:=
 bnd (xK a0 a1) fun x1=>
 if x1=true then
 some true
else
 bnd (idx a0 a1) fun x4=>
 bnd (if (x4.toNat:Int)=44 then
 some ((x4.toNat:Int)==44)
else
 if (x4.toNat:Int)=13 then
 some ((x4.toNat:Int)==13)
else
 some ((x4.toNat:Int)==10):Option Bool) fun t5=>
 if t5=true then
 some true
else
 some false
theorem qQ {a0:List UInt8} {a1:Int} {b0:Nat} {res:Bool} (h0:vm a0 a1=some res):zo X 276 [dP b0] [.var b0 [.sl 1 (lB a0),dN a1] 267] (fun x=>(dT res)) (fun x=>[.var b0 [.sl 1 (lB a0),dN a1] 267]):=by
 unfold vm at h0;refine zb (X:=X) Z Tryz.func276 Z Z Tryz.ntmps276 Z Z ?_;refine aS ?_;refine aA Z Z ?_;refine aN Z ?_;refine T.seq ?_;refine aS ?_;refine aA Z Z ?_;obtain⟨x1,hx1,h0⟩:=bS h0;refine z6 (OpR.call [0] fn192 (wB hx1) Z Z Z (fun _=>Z)) Z ?_;refine aN Z ?_;rcases z9 h0 with ⟨c2,h0⟩|⟨c2,h0⟩
 ·refine zf Z (c2) ?_;refine aS ?_;refine aA Z Z ?_;refine aN Z ?_;refine T.ret ?_;obtain rfl:=osi h0;exact rO [0] [2] Z undef (cT Z ResL.nil) Z Z Z Z
 refine ze Z (eN c2) ?_;refine aK Z ?_;refine T.seq ?_;refine T.seq ?_;obtain⟨x4,hx4,h0⟩:=bS h0;refine yr zV [dP b0,dP b0,dP b0,.sl 1 (lB a0),dP b0,dP b0,.val (.pointer (some ⟨b0,1,none⟩)),dN a1,.nod [.val (.int .u8 (x4.toNat:Int))],.val (.int .u8 (x4.toNat:Int))] [2,14] (by decide +kernel) Z ?_ Z ?_
 ·iterate 3 refine aB rfl rfl rfl ?_
  refine zw.yes (Want.plain Z) Z (z7 0 Z Z Z Z) ?_;iterate 3 refine aB rfl rfl rfl ?_
  refine zw.yes (Want.plain Z) Z (z7 0 Z Z Z Z) ?_;refine zw.yes (Want.plain Z) Z (zp ww hx4 Z Z Z Z Z) ?_;refine aB Z Z Z ?_;exact zw.nil
 show T X _ _ _;refine T.block ?_;refine T.seq ?_;refine aS ?_;iterate 2 refine aA rfl rfl ?_
 refine aN Z ?_;obtain⟨t5,ht5,h0⟩:=bS h0;refine zA (fun S'=>S'=⟨[(15,(dT t5)),(2,(dT false))],[.var b0 [.sl 1 (lB a0),dN a1] 267],19⟩) (fun _ h=>h) ?_ ?_;rotate_left
 ·rintro _ rfl;show T X _ _ _;rcases z9 h0 with ⟨c8,h0⟩|⟨c8,h0⟩
  ·refine zf Z (c8) ?_;refine aS ?_;refine aA Z Z ?_;refine aN Z ?_;refine T.ret ?_;obtain rfl:=osi h0;exact rO [0] [2] Z undef (cT Z ResL.nil) Z Z Z Z
  refine ze Z (eN c8) ?_;refine aK Z ?_;refine aS ?_;refine aA Z Z ?_;refine aN Z ?_;refine T.ret ?_;obtain rfl:=osi h0;exact rO [0] [2] Z undef (cT Z ResL.nil) Z Z Z Z
 rcases z9 ht5 with ⟨c6,ht5⟩|⟨c6,ht5⟩
 ·refine zf Z (beq_iff_eq.2 c6) ?_;refine T.skip ?_;obtain rfl:=osi ht5;exact⟨_,Gst.only [2,15] Z,Z⟩
 refine ze Z (beq_eq_false_iff_ne.2 c6) ?_;refine aS ?_;iterate 2 refine aA rfl rfl ?_
 refine aN Z ?_;rcases z9 ht5 with ⟨c7,ht5⟩|⟨c7,ht5⟩
 ·refine zf Z (beq_iff_eq.2 c7) ?_;refine T.skip ?_;obtain rfl:=osi ht5;exact⟨_,Gst.only [2,15] Z,Z⟩
 refine ze Z (beq_eq_false_iff_ne.2 c7) ?_;refine T.region ?_;iterate 2 refine aA rfl rfl ?_
 refine TL.nil ?_;obtain rfl:=osi ht5;exact⟨_,Gst.only [2,15] Z,Z⟩
noncomputable def yw.l1 (a0:List UInt8) (s2:Bool × Int):Option (Lp (Bool × Int) (Bool × Int)):=
 bnd (vm a0 s2.2) fun x10=>
 if x10=true then
 some (Lp.done (s2.1,s2.2))
else
 bnd (if s2.1=true then
 some true
else
 bnd (xv 34 a0 s2.2) fun x14=>
 some x14:Option Bool) fun t12=>
 some (Lp.next (t12,w64 (s2.2+1)))
noncomputable def yw (a0:List UInt8) (a1:Int):Option (Bool × Int):=
 bnd (loop (yw.l1 a0) (false,a1):Option (Bool × Int)) fun t1=>
 some (t1.1,t1.2)
theorem sD {a0:List UInt8} {a1:Int} {b0:Nat} {res:Bool × Int} (h0:yw a0 a1=some res):zo X 270 [dP b0] [.var b0 [.sl 1 (lB a0),dN a1] 267] (fun x=>(dT res.1)) (fun x=>[.var b0 [.sl 1 (lB a0),dN res.2] 267]):=by
 unfold yw at h0;refine zb (X:=X) Z Tryz.func270 Z Z Tryz.ntmps270 Z Z ?_;refine aS ?_;refine aA Z Z ?_;refine aN Z ?_;refine aS ?_;refine aA Z Z ?_;refine aN Z ?_;refine T.seq ?_;obtain⟨t1,ht1,h0⟩:=bS h0;refine zA (fun S'=>S'=⟨[(3,(dT t1.1)),(2,(dT false))],[.var b0 [.sl 1 (lB a0),dN t1.2] 267],20⟩) (fun _ h=>h) ?_ ?_;rotate_left
 ·rintro _ rfl;show T X _ _ _;refine aS ?_;iterate 2 refine aA rfl rfl ?_
  refine aN Z ?_;refine T.ret ?_;obtain rfl:=osi h0;exact rO [0] [2] Z undef (cT Z ResL.nil) Z Z Z Z
 refine T.block ?_;obtain⟨n3,n8⟩:=zy ht1;refine T.loop (fun n S'=>∃ S'',Gst S' S''∧∃ s2:Bool × Int,S''=⟨[(3,(dT s2.1)),(2,(dT false)),(0,(dP b0))],[.var b0 [.sl 1 (lB a0),dN s2.2] 267],20⟩∧wo (yw.l1 a0) n s2=some t1) n3 ?_ ?_
 ·exact⟨_,Gst.only [0,2,3] Z,(false,a1),Z,n8⟩
 rintro n3 _ ⟨_,g,s2,rfl,i7⟩;refine T.ghost g ?_;obtain⟨m4,q5,rfl,q6,i7⟩:=zz i7;unfold yw.l1 at q6;refine T.seq ?_;refine aS ?_;refine aA Z Z ?_;obtain⟨x10,hx10,q6⟩:=bS q6;refine z6 (OpR.call [0] fn276 (qQ hx10) Z Z Z (fun _=>Z)) Z ?_;refine aA Z Z ?_;refine aN Z ?_;rcases z9 q6 with ⟨c11,q6⟩|⟨c11,q6⟩
 ·refine ze Z (zQ (c11)) ?_;refine T.exit ?_;obtain rfl:=osi q6;obtain rfl:_=_:=i7;exact⟨_,Gst.only [2,3] Z,Z⟩
 refine zf Z (zR (eN c11)) ?_;refine aK Z ?_;refine T.seq ?_;refine T.block ?_;obtain⟨t12,ht12,q6⟩:=bS q6;refine zA (fun S'=>S'=⟨[(3,(dT t12)),(2,(dT false)),(0,(dP b0))],[.var b0 [.sl 1 (lB a0),dN s2.2] 267],20⟩) (fun _ h=>h) ?_ ?_;rotate_left
 ·rintro _ rfl;show T X _ _ _;refine T.region ?_;iterate 3 refine aA rfl rfl ?_
  refine z6 (z7 0 Z Z Z Z) Z ?_;iterate 3 refine aA rfl rfl ?_
  refine zv (OpR.store 0 Z Z Z Z Z Z Z Z) ?_;refine TL.nil ?_;obtain rfl:=osi q6;exact⟨m4,Nat.lt_succ_self _,_,Gst.only [0,2,3] Z,(t12,w64 (s2.2+1)),Z,i7⟩
 refine T.region ?_;iterate 2 refine aA rfl rfl ?_
 rcases z9 ht12 with ⟨c13,ht12⟩|⟨c13,ht12⟩
 ·refine TL.off Z Z Z Z (c13) Z Z ?_;refine TL.off Z Z Z Z (c13) Z Z ?_;refine z6 (zt Z (c13) Z) Z ?_;refine aA Z Z ?_;refine TL.nil ?_;obtain rfl:=osi ht12;exact⟨_,Gst.only [0,2,3] Z,Z⟩
 refine TL.on Z Z Z Z (eN c13) ?_;refine aA Z Z ?_;refine TL.on Z Z Z Z (eN c13) ?_;obtain⟨x14,hx14,ht12⟩:=bS ht12;refine z6 (OpR.call [0] fn226 (xY hx14) Z Z Z (fun _=>Z)) Z ?_;refine z6 (zx Z (eN c13) Z) Z ?_;refine aA Z Z ?_;refine TL.nil ?_;obtain rfl:=osi ht12;exact⟨_,Gst.only [0,2,3] Z,Z⟩
noncomputable def zU.l1 (a0:List UInt8) (s14:Int):Option (Lp Int Int):=
 bnd (bnd (xK a0 s14) fun x23=>
 if x23=true then
 some false
else
 bnd (xv 34 a0 s14) fun x25=>
 some (!x25):Option Bool) fun t22=>
 if t22=true then
 some (Lp.next (w64 (s14+1)))
else
 some (Lp.done s14)
noncomputable def zU.l2 (a0:List UInt8) (s5:Int × Int × (List arena_Span)):Option (Lp (Int × Int × (List arena_Span)) (Int × (List arena_Span) × Int)):=
 bnd (loop (zU.l1 a0) s5.2.1:Option Int) fun t13=>
 bnd (xK a0 t13) fun x27=>
 if x27=true then
 bnd (xZ s5.1 t13 s5.2.2) fun x29=>
 some (Lp.done (4,x29,t13))
else
 bnd (xv 34 a0 (w64 (t13+1))) fun x32=>
 if x32=true then
 bnd (xZ s5.1 (w64 (t13+1)) s5.2.2) fun x34=>
 some (Lp.next (w64 ((w64 (t13+1))+1),w64 ((w64 (t13+1))+1),x34))
else
 bnd (xZ s5.1 (w64 ((w64 (t13+1))-1)) s5.2.2) fun x36=>
 bnd (yw a0 (w64 (t13+1))) fun x38=>
 bnd (xZ (w64 (t13+1)) x38.2 x36) fun x39=>
 if x38.2>(w64 (t13+1)) then
 some (Lp.done (3,x39,x38.2))
else
 some (Lp.done (1,x39,x38.2))
noncomputable def zU (a0:List UInt8) (a1:Int):Option (Int × (List arena_Span) × Int):=
 loop (zU.l2 a0) (w64 (a1+1),w64 (a1+1),[])
theorem qP {a0:List UInt8} {a1:Int} {b0:Nat} {res:Int × (List arena_Span) × Int} (h0:zU a0 a1=some res):zo X 252 [dP b0] [.var b0 [.sl 1 (lB a0),dN a1] 267] (fun x=>.tup [dN res.1,.sl 2 (List.map zm res.2.1)]) (fun x=>[.var b0 [.sl 1 (lB a0),dN res.2.2] 267]):=by
 unfold zU at h0;refine zb (X:=X) Z Tryz.func252 Z Z Tryz.ntmps252 Z Z ?_;refine aS ?_;iterate 2 refine aA rfl rfl ?_
 refine aN Z ?_;refine T.scope Z 0 Z ?_;refine aS ?_;refine TL.op (OpR.alloc Z Z (fun _=>Z)) Z (fun p3=>?_);refine aN Z ?_;refine aS ?_;iterate 3 refine aA rfl rfl ?_
 refine z6 (z7 0 Z Z Z Z) Z ?_;iterate 3 refine aA rfl rfl ?_
 refine zv (OpR.store 0 Z Z Z Z Z Z Z Z) ?_;refine aN Z ?_;refine aS ?_;iterate 3 refine aA rfl rfl ?_
 refine z6 (z7 0 Z Z Z Z) Z ?_;refine aA Z Z ?_;refine aN Z ?_;refine T.seq ?_;refine T.label ?_;show T X _ _ _;obtain⟨n6,n11⟩:=zy h0;refine T.atLabelS Z ?_ (fun n S'=>∃ S'',Gst S' S''∧∃ y4:Value,∃ s5:Int × Int × (List arena_Span),S''=⟨[(5,(dN s5.1)),(4,(dP (blk p3))),(3,.val (.slice none 0 0)),(2,(dN 0)),(0,(dP b0))],[.var b0 [.sl 1 (lB a0),dN s5.2.1] 267,.var (blk p3) [.val y4] 359,.row y4 (List.map zm s5.2.2) 2 142],94⟩∧wo (zU.l2 a0) n s5=some res) n6 ?_ ?_
 ·rfl
 ·exact⟨_,Gst.trans (Gst.only [0,2,3,4,5] Z) (ye (ow:=[.var b0 [.sl 1 (lB a0),dN (w64 (a1+1))] 267,.var (blk p3) [.val (.slice none 0 0)] 359]) 2 142 Z),(.slice none 0 0),(w64 (a1+1),w64 (a1+1),[]),Z,n11⟩
 rintro n6 _ ⟨_,g,y4,s5,rfl,i10⟩;refine T.ghost g ?_;obtain⟨m7,q8,rfl,q9,i10⟩:=zz i10;unfold zU.l2 at q9;refine T.seq ?_;obtain⟨t13,ht13,q9⟩:=bS q9;refine zA (fun S'=>S'=⟨[(5,(dN s5.1)),(4,(dP (blk p3))),(3,.val (.slice none 0 0)),(2,(dN 0)),(0,(dP b0))],[.var b0 [.sl 1 (lB a0),dN t13] 267,.var (blk p3) [.val y4] 359,.row y4 (List.map zm s5.2.2) 2 142],94⟩) (fun _ h=>h) ?_ ?_
 ·refine T.block ?_;obtain⟨n15,n20⟩:=zy ht13;refine T.loop (fun n S'=>∃ S'',Gst S' S''∧∃ s14:Int,S''=⟨[(5,(dN s5.1)),(4,(dP (blk p3))),(3,.val (.slice none 0 0)),(2,(dN 0)),(0,(dP b0))],[.var b0 [.sl 1 (lB a0),dN s14] 267,.var (blk p3) [.val y4] 359,.row y4 (List.map zm s5.2.2) 2 142],94⟩∧wo (zU.l1 a0) n s14=some t13) n15 ?_ ?_
  ·exact⟨_,Gst.only [0,2,3,4,5] Z,s5.2.1,Z,n20⟩
  rintro n15 _ ⟨_,g,s14,rfl,i19⟩;refine T.ghost g ?_;obtain⟨m16,q17,rfl,q18,i19⟩:=zz i19;unfold zU.l1 at q18;refine T.seq ?_;refine T.seq ?_;obtain⟨t22,ht22,q18⟩:=bS q18;refine zA (fun S'=>S'=⟨[(24,(dT t22)),(5,(dN s5.1)),(4,(dP (blk p3))),(3,.val (.slice none 0 0)),(2,(dN 0)),(0,(dP b0))],[.var b0 [.sl 1 (lB a0),dN s14] 267,.var (blk p3) [.val y4] 359,.row y4 (List.map zm s5.2.2) 2 142],94⟩) (fun _ h=>h) ?_ ?_;rotate_left
  ·rintro _ rfl;show T X _ _ _;rcases z9 q18 with ⟨c26,q18⟩|⟨c26,q18⟩;rotate_left
   ·refine ze Z (eN c26) ?_;refine T.exit ?_;obtain rfl:=osi q18;obtain rfl:_=_:=i19;exact⟨_,Gst.only [0,2,3,4,5] Z,Z⟩
   refine zf Z (c26) ?_;refine aK Z ?_;refine T.block ?_;refine T.region ?_;iterate 3 refine aA rfl rfl ?_
   refine z6 (z7 0 Z Z Z Z) Z ?_;iterate 3 refine aA rfl rfl ?_
   refine zv (OpR.store 0 Z Z Z Z Z Z Z Z) ?_;refine TL.nil ?_;obtain rfl:=osi q18;exact⟨m16,Nat.lt_succ_self _,_,Gst.only [0,2,3,4,5] Z,w64 (s14+1),Z,i19⟩
  refine T.region ?_;refine aA Z Z ?_;obtain⟨x23,hx23,ht22⟩:=bS ht22;refine z6 (OpR.call [0] fn192 (wB hx23) Z Z Z (fun _=>Z)) Z ?_;iterate 2 refine aA rfl rfl ?_
  rcases z9 ht22 with ⟨c24,ht22⟩|⟨c24,ht22⟩
  ·refine TL.off Z Z Z Z (zQ (c24)) Z Z ?_;refine TL.off Z Z Z Z (zQ (c24)) Z Z ?_;refine TL.off Z Z Z Z (zQ (c24)) Z Z ?_;refine z6 (zx Z (zQ (c24)) Z) Z ?_;refine TL.nil ?_;obtain rfl:=osi ht22;exact⟨_,Gst.only [0,2,3,4,5,24] Z,Z⟩
  refine TL.on Z Z Z Z (zR (eN c24)) ?_;refine aA Z Z ?_;refine TL.on Z Z Z Z (zR (eN c24)) ?_;obtain⟨x25,hx25,ht22⟩:=bS ht22;refine z6 (OpR.call [0] fn226 (xY hx25) Z Z Z (fun _=>Z)) Z ?_;refine TL.on Z Z Z Z (zR (eN c24)) ?_;refine aA Z Z ?_;refine z6 (zt Z (zR (eN c24)) Z) Z ?_;refine TL.nil ?_;obtain rfl:=osi ht22;exact⟨_,Gst.only [0,2,3,4,5,24] Z,Z⟩
 rintro _ rfl;show T X _ _ _;refine T.seq ?_;refine aS ?_;refine aA Z Z ?_;obtain⟨x27,hx27,q9⟩:=bS q9;refine z6 (OpR.call [0] fn192 (wB hx27) Z Z Z (fun _=>Z)) Z ?_;refine aN Z ?_;rcases z9 q9 with ⟨c28,q9⟩|⟨c28,q9⟩
 ·refine zf Z (c28) ?_;refine aS ?_;iterate 4 refine aA rfl rfl ?_
  refine z6 (z7 0 Z Z Z Z) Z ?_;obtain⟨x29,hx29,q9⟩:=bS q9;refine TL.op (OpR.call [1,2] fn269 (vT hx29) Z Z Z (fun _=>Z)) Z (fun w30=>?_);refine aN Z ?_;refine T.seq ?_;refine yr zV [.val (vn w30 0),dN 4,.val (vn w30 0)] [0,2,3,4,5] (by decide +kernel) Z ?_ Z ?_
  ·refine zw.yes (Want.plain Z) Z (z7 1 Z Z Z Z) ?_;iterate 2 refine aB rfl rfl rfl ?_
   exact zw.nil
  show T X _ _ _;refine T.ret ?_;obtain rfl:=osi q9;obtain rfl:_=_:=i10;exact zE (ks:=[0]) (Gst.trans (Gst.only [2,3] Z) (Gst.trans (zC 2 Z Z (ReS.cons (Re.base .all) (ReS.cons Re.refl ReS.nil)) (ReO.same (ReO.var (ReL.cons (Re.base .all) ReL.nil) (ReO.same ReO.nil)))) (Gst.pick [0] Z Z))) undef (cT Z (cT Z ResL.nil)) Z Z Z Z
 refine ze Z (eN c28) ?_;refine aK Z ?_;refine aS ?_;iterate 3 refine aA rfl rfl ?_
 refine z6 (z7 0 Z Z Z Z) Z ?_;iterate 3 refine aA rfl rfl ?_
 refine zv (OpR.store 0 Z Z Z Z Z Z Z Z) ?_;refine aN Z ?_;refine T.seq ?_;refine aS ?_;refine aA Z Z ?_;obtain⟨x32,hx32,q9⟩:=bS q9;refine z6 (OpR.call [0] fn226 (xY hx32) Z Z Z (fun _=>Z)) Z ?_;refine aN Z ?_;rcases z9 q9 with ⟨c33,q9⟩|⟨c33,q9⟩
 ·refine zf Z (c33) ?_;refine aS ?_;iterate 4 refine aA rfl rfl ?_
  refine z6 (z7 0 Z Z Z Z) Z ?_;obtain⟨x34,hx34,q9⟩:=bS q9;refine TL.op (OpR.call [1,2] fn269 (vT hx34) Z Z Z (fun _=>Z)) Z (fun w35=>?_);refine aN Z ?_;refine aS ?_;iterate 3 refine aA rfl rfl ?_
  refine z6 (z7 0 Z Z Z Z) Z ?_;iterate 3 refine aA rfl rfl ?_
  refine zv (OpR.store 0 Z Z Z Z Z Z Z Z) ?_;refine aN Z ?_;refine aS ?_;iterate 3 refine aA rfl rfl ?_
  refine z6 (z7 0 Z Z Z Z) Z ?_;refine aA Z Z ?_;refine aN Z ?_;refine T.goto ?_;obtain rfl:=osi q9;exact⟨Z,m7,Nat.lt_succ_self _,_,Gst.only [0,2,3,4,5] Z,(vn w35 0),(w64 ((w64 (t13+1))+1),w64 ((w64 (t13+1))+1),x34),Z,i10⟩
 refine ze Z (eN c33) ?_;refine aK Z ?_;refine aS ?_;iterate 4 refine aA rfl rfl ?_
 refine z6 (z7 0 Z Z Z Z) Z ?_;refine aA Z Z ?_;obtain⟨x36,hx36,q9⟩:=bS q9;refine TL.op (OpR.call [1,2] fn269 (vT hx36) Z Z Z (fun _=>Z)) Z (fun w37=>?_);refine aN Z ?_;refine aS ?_;iterate 3 refine aA rfl rfl ?_
 refine z6 (z7 0 Z Z Z Z) Z ?_;refine aA Z Z ?_;refine aN Z ?_;refine aS ?_;refine aA Z Z ?_;obtain⟨x38,hx38,q9⟩:=bS q9;refine z6 (OpR.call [0] fn270 (sD hx38) Z Z Z (fun _=>Z)) Z ?_;refine aN Z ?_;refine aS ?_;iterate 4 refine aA rfl rfl ?_
 refine z6 (z7 0 Z Z Z Z) Z ?_;obtain⟨x39,hx39,q9⟩:=bS q9;refine TL.op (OpR.call [1,2] fn269 (vT hx39) Z Z Z (fun _=>Z)) Z (fun w40=>?_);refine aN Z ?_;refine T.seq ?_;refine aS ?_;iterate 3 refine aA rfl rfl ?_
 refine z6 (z7 0 Z Z Z Z) Z ?_;iterate 2 refine aA rfl rfl ?_
 refine aN Z ?_;rcases z9 q9 with ⟨c41,q9⟩|⟨c41,q9⟩
 ·refine zf Z (eT c41) ?_;refine T.seq ?_;refine yr zV [.val (vn w40 0),dN 3,.val (vn w40 0)] [0,2,3,4,5] (by decide +kernel) Z ?_ Z ?_
  ·refine zw.yes (Want.plain Z) Z (z7 1 Z Z Z Z) ?_;iterate 2 refine aB rfl rfl rfl ?_
   exact zw.nil
  show T X _ _ _;refine T.ret ?_;obtain rfl:=osi q9;obtain rfl:_=_:=i10;exact zE (ks:=[0]) (Gst.trans (Gst.only [2,3] Z) (Gst.trans (zC 2 Z Z (ReS.cons (Re.base .all) (ReS.cons Re.refl ReS.nil)) (ReO.same (ReO.var (ReL.cons (Re.base .all) ReL.nil) (ReO.same ReO.nil)))) (Gst.pick [0] Z Z))) undef (cT Z (cT Z ResL.nil)) Z Z Z Z
 refine ze Z (eF c41) ?_;refine aK Z ?_;refine T.seq ?_;refine yr zV [.val (vn w40 0),dN 1,.val (vn w40 0)] [0,2,3,4,5] (by decide +kernel) Z ?_ Z ?_
 ·refine zw.yes (Want.plain Z) Z (z7 1 Z Z Z Z) ?_;iterate 2 refine aB rfl rfl rfl ?_
  exact zw.nil
 show T X _ _ _;refine T.ret ?_;obtain rfl:=osi q9;obtain rfl:_=_:=i10;exact zE (ks:=[0]) (Gst.trans (Gst.only [2,3] Z) (Gst.trans (zC 2 Z Z (ReS.cons (Re.base .all) (ReS.cons Re.refl ReS.nil)) (ReO.same (ReO.var (ReL.cons (Re.base .all) ReL.nil) (ReO.same ReO.nil)))) (Gst.pick [0] Z Z))) undef (cT Z (cT Z ResL.nil)) Z Z Z Z
noncomputable def uy (a0:Int) (a1:Int):Option (List arena_Span):=
 if a1≤a0 then
 some []
else
 if (w64 (0-1))≥0 then
 bnd (idx ([]:List arena_Span) (w64 (0-1))) fun x5=>
 none
else
 bnd (app 16 [] [(⟨a0,w64 (a1-a0)⟩:arena_Span)]) fun x7=>
 some x7
theorem scan_parts_add_c {a0:Int} {a1:Int} {b0:Nat} {res:(List arena_Span)} (h0:uy a0 a1=some res):zo X 269 [dP b0,dN a0,dN a1] [.var b0 [.val (.slice none 0 0)] 359] (fun x=>.tup []) (fun x=>[.var b0 [.val (vn x 0)] 359,.row (vn x 0) (List.map zm res) 2 142]):=by
 unfold uy at h0;refine zb (X:=X) Z Tryz.func269 Z Z Tryz.ntmps269 Z Z ?_;refine T.seq ?_;refine aS ?_;iterate 3 refine aA rfl rfl ?_
 refine aN Z ?_;rcases z9 h0 with ⟨c1,h0⟩|⟨c1,h0⟩
 ·refine zf Z (eT c1) ?_;refine T.ret ?_;obtain rfl:=osi h0;exact zE (ks:=[0,1]) (Gst.trans (Gst.only [] Z) (ye (ow:=[.var b0 [.val (.slice none 0 0)] 359]) 2 142 Z)) (.tuple #[(.slice none 0 0)]) ResL.nil Z Z Z Z
 refine ze Z (eF c1) ?_;refine aK Z ?_;refine aS ?_;iterate 4 refine aA rfl rfl ?_
 refine z6 (OpR.build Z Z Z Z Z) Z ?_;refine TL.op (OpR.alloc Z Z (fun _=>Z)) Z (fun p2=>?_);refine zv (OpR.store 1 Z Z Z Z Z Z Z Z) ?_;refine aN Z ?_;refine T.seq ?_;refine aS ?_;iterate 2 refine aA rfl rfl ?_
 refine z6 (z7 0 Z Z Z Z) Z ?_;iterate 3 refine aA rfl rfl ?_
 refine aN Z ?_;refine aS ?_;iterate 2 refine aA rfl rfl ?_
 refine aN Z ?_;rcases z9 h0 with ⟨c3,h0⟩|⟨c3,h0⟩
 ·refine zf Z (eT c3) ?_;refine T.seq ?_;obtain⟨x5,hx5,h0⟩:=bS h0;exact (idx_nil hx5).elim
 refine ze Z (eF c3) ?_;refine aK Z ?_;refine T.ghost (ye 2 142 Z) ?_;obtain⟨x7,hx7,h0⟩:=bS h0;refine yA zV (fun env6=>[dP b0,dP b0,dP b0,.val (.slice none 0 0),.agg [dN a0,dN (w64 (a1-a0))],.sl 2 (List.map zm [(⟨a0,w64 (a1-a0)⟩:arena_Span)]),.val (env6 6),dP b0,.dead]) (fun D env6=>[(bif D 8 then .var b0 [.val (env6 6)] 359 else .var b0 [.val (.slice none 0 0)] 359),.var (blk p2) [dN a0,dN (w64 (a1-a0))] 142,(bif D 6 then .row (env6 6) (List.map zm x7) 2 142 else .row (.slice none 0 0) (List.map zm []) 2 142)]) [0,0,2,6,0,16,62,127,255] [] _ (by decide +kernel) (by decide +kernel) (fun _=>Z) (fun _=>Z) ?_ (fun _=>Z) (fun _=>Z) ?_;rotate_left
 ·intro env6;obtain rfl:=osi h0;exact xg (ks:=[0,1]) (gP [] [0,2] Z Z Z) (.tuple #[(env6 6)]) ResL.nil Z Z Z Z
 iterate 3 refine aC ?_
 refine zi true ?_ (fun _ _ _ _ _ _ _=>Z) ?_
 ·intro D env6 hA;have e6:D 6=false:=hA.no 6 _ rfl rfl;have e8:D 8=false:=hA.no 8 _ rfl rfl;exact zK [(6,false),(8,false)] ⟨e6,e8,trivial⟩ (Want.plain Z) (z7 0 Z Z Z Z) (fun x=>Z) (fun x=>Z)
 refine oT (.agg [dN a0,dN (w64 (a1-a0))]) (fun _ _=>z7 1 Z Z Z Z) ?_;refine oT (.sl 2 (List.map zm [(⟨a0,w64 (a1-a0)⟩:arena_Span)])) (fun _ _=>yN Z Z Z Z Z Z Z) ?_;refine zi true ?_ (fun D hA env6 x j hj hD=>match j,hj,hD with|0,_,_=>Z|1,_,_=>Z|2,_,_=>Z|3,_,_=>Z|4,_,_=>Z|5,_,_=>Z|6,hj,_=>absurd Z hj|7,_,_=>Z|8,_,_=>Z|_+9,_,_=>Z) ?_
 ·intro D env6 hA;have e8:D 8=false:=hA.no 8 _ rfl rfl;exact zK [(8,false),(6,false)] ⟨e8,hA.me,trivial⟩ (Want.plain Z) (zM (m:=[(⟨a0,w64 (a1-a0)⟩:arena_Span)]) zm 2 hx7 Z Z Z Z Z Z Z Z Z (fun _=>Z)) (fun x=>Z) (fun x=>Z)
 refine aC ?_;refine zi true ?_ (fun _ _ _ _ _ _ _=>Z) ?_
 ·intro D env6 hA;have e6:D 6=true:=hA.yes 6 _ rfl rfl;exact zK [(6,true),(8,false)] ⟨e6,hA.me,trivial⟩ (Want.plain Z) (OpR.store 0 Z Z Z Z Z Z Z Z) (fun x=>Z) (fun x=>Z)
 exact trivial
noncomputable def vN (a0:List UInt8) (a1:Int):Option (Int × (List arena_Span) × Int):=
 bnd (yw a0 a1) fun x2=>
 bnd (uy a1 x2.2) fun x3=>
 if x2.1=true then
 some (2,x3,x2.2)
else
 some (0,x3,x2.2)
theorem pQ {a0:List UInt8} {a1:Int} {b0:Nat} {res:Int × (List arena_Span) × Int} (h0:vN a0 a1=some res):zo X 253 [dP b0] [.var b0 [.sl 1 (lB a0),dN a1] 267] (fun x=>.tup [dN res.1,.sl 2 (List.map zm res.2.1)]) (fun x=>[.var b0 [.sl 1 (lB a0),dN res.2.2] 267]):=by
 unfold vN at h0;refine zb (X:=X) Z Tryz.func253 Z Z Tryz.ntmps253 Z Z ?_;refine aS ?_;iterate 2 refine aA rfl rfl ?_
 refine aN Z ?_;refine aS ?_;refine TL.op (OpR.alloc Z Z (fun _=>Z)) Z (fun p1=>?_);refine aN Z ?_;refine aS ?_;iterate 3 refine aA rfl rfl ?_
 refine z6 (z7 0 Z Z Z Z) Z ?_;refine aA Z Z ?_;refine aN Z ?_;refine aS ?_;refine aA Z Z ?_;obtain⟨x2,hx2,h0⟩:=bS h0;refine z6 (OpR.call [0] fn270 (sD hx2) Z Z Z (fun _=>Z)) Z ?_;refine aA Z Z ?_;refine aN Z ?_;refine aS ?_;iterate 4 refine aA rfl rfl ?_
 refine z6 (z7 0 Z Z Z Z) Z ?_;obtain⟨x3,hx3,h0⟩:=bS h0;refine TL.op (OpR.call [1] fn269 (scan_parts_add_c hx3) Z Z Z (fun _=>Z)) Z (fun w4=>?_);refine aN Z ?_;refine T.seq ?_;refine aS ?_;refine aA Z Z ?_;refine aN Z ?_;rcases z9 h0 with ⟨c5,h0⟩|⟨c5,h0⟩
 ·refine zf Z (c5) ?_;refine T.seq ?_;refine yr zV [.val (vn w4 0),dN 2,.val (vn w4 0)] [2,3,4] (by decide +kernel) Z ?_ Z ?_
  ·refine zw.yes (Want.plain Z) Z (z7 1 Z Z Z Z) ?_;iterate 2 refine aB rfl rfl rfl ?_
   exact zw.nil
  show T X _ _ _;refine T.ret ?_;obtain rfl:=osi h0;exact zE (ks:=[0]) (Gst.trans (Gst.only [2,3] Z) (Gst.trans (zC 2 Z Z (ReS.cons (Re.base .all) (ReS.cons Re.refl ReS.nil)) (ReO.same (ReO.var (ReL.cons (Re.base .all) ReL.nil) (ReO.same ReO.nil)))) (Gst.pick [0] Z Z))) undef (cT Z (cT Z ResL.nil)) Z Z Z Z
 refine ze Z (eN c5) ?_;refine aK Z ?_;refine T.seq ?_;refine yr zV [.val (vn w4 0),dN 0,.val (vn w4 0)] [2,3] (by decide +kernel) Z ?_ Z ?_
 ·refine zw.yes (Want.plain Z) Z (z7 1 Z Z Z Z) ?_;iterate 2 refine aB rfl rfl rfl ?_
  exact zw.nil
 show T X _ _ _;refine T.ret ?_;obtain rfl:=osi h0;exact zE (ks:=[0]) (Gst.trans (Gst.only [2,3] Z) (Gst.trans (zC 2 Z Z (ReS.cons (Re.base .all) (ReS.cons Re.refl ReS.nil)) (ReO.same (ReO.var (ReL.cons (Re.base .all) ReL.nil) (ReO.same ReO.nil)))) (Gst.pick [0] Z Z))) undef (cT Z (cT Z ResL.nil)) Z Z Z Z
noncomputable def wT (a0:List UInt8) (a1:Int):Option (scan_Field × Int):=
 bnd (xv 34 a0 a1) fun x3=>
 bnd (if x3=true then
 bnd (zU a0 a1) fun x6=>
 some (x6.2.2,x6.1,x6.2.1)
else
 bnd (vN a0 a1) fun x7=>
 some (x7.2.2,x7.1,x7.2.1):Option (Int × Int × (List arena_Span))) fun t4=>
 some ((⟨(⟨a1,w64 (t4.1-a1)⟩:arena_Span),t4.2.1,t4.2.2⟩:scan_Field),t4.1)
theorem sE {a0:List UInt8} {a1:Int} {b0:Nat} {res:scan_Field × Int} (h0:wT a0 a1=some res):zo X 225 [dP b0] [.var b0 [.sl 1 (lB a0),dN a1] 267] (fun x=>.agg [dN res.1.fRaw.fAt,dN res.1.fRaw.fN,dN res.1.fKind,.sl 2 (List.map zm res.1.fParts)]) (fun x=>[.var b0 [.sl 1 (lB a0),dN res.2] 267]):=by
 unfold wT at h0;refine zb (X:=X) Z Tryz.func225 Z Z Tryz.ntmps225 Z Z ?_;refine aS ?_;refine TL.op (OpR.alloc Z Z (fun _=>Z)) Z (fun p1=>?_);refine aN Z ?_;refine aS ?_;iterate 3 refine aA rfl rfl ?_
 refine z6 (z7 0 Z Z Z Z) Z ?_;refine aA Z Z ?_;refine aN Z ?_;refine aS ?_;refine TL.op (OpR.alloc Z Z (fun _=>Z)) Z (fun p2=>?_);refine aN Z ?_;refine T.seq ?_;refine aS ?_;refine aA Z Z ?_;obtain⟨x3,hx3,h0⟩:=bS h0;refine z6 (OpR.call [0] fn226 (xY hx3) Z Z Z (fun _=>Z)) Z ?_;refine aN Z ?_;obtain⟨t4,ht4,h0⟩:=bS h0;refine zA (fun S'=>S'=⟨[(4,(dP (blk p2))),(3,(dN a1)),(2,(dP (blk p1))),(0,(dP b0))],[.var b0 [.sl 1 (lB a0),dN t4.1] 267,.var (blk p1) [dN 0,dN 0,dN 0,.val (.slice none 0 0)] 270,.var (blk p2) [dN 0,dN 0,dN t4.2.1,.sl 2 (List.map zm t4.2.2)] 270],35⟩) (fun _ h=>h) ?_ ?_;rotate_left
 ·rintro _ rfl;show T X _ _ _;refine aS ?_;iterate 4 refine aA rfl rfl ?_
  refine z6 (z7 0 Z Z Z Z) Z ?_;iterate 2 refine aA rfl rfl ?_
  refine z6 (OpR.build Z Z Z Z Z) Z ?_;refine aA Z Z ?_;refine zv (OpR.store 2 Z Z Z Z Z Z Z Z) ?_;refine aN Z ?_;refine aS ?_;refine z6 (z7 2 Z Z Z Z) Z ?_;refine zv (OpR.store 1 Z Z Z Z Z Z Z Z) ?_;refine aN Z ?_;refine T.ret ?_;obtain rfl:=osi h0;exact rP [0] [2] [0,1] Z Z Z undef (cV 1 Z Z Z Z ResL.nil) Z Z Z Z
 rcases z9 ht4 with ⟨c5,ht4⟩|⟨c5,ht4⟩
 ·refine zf Z (c5) ?_;refine T.region ?_;refine aA Z Z ?_;obtain⟨x6,hx6,ht4⟩:=bS ht4;refine z6 (OpR.call [0] fn252 (qP hx6) Z Z Z (fun _=>Z)) Z ?_;iterate 4 refine aA rfl rfl ?_
  refine zv (OpR.store 2 Z Z Z Z Z Z Z Z) ?_;refine aA Z Z ?_;refine zv (OpR.store 2 Z Z Z Z Z Z Z Z) ?_;refine TL.nil ?_;obtain rfl:=osi ht4;exact⟨_,Gst.only [0,2,3,4] Z,Z⟩
 refine ze Z (eN c5) ?_;refine T.region ?_;refine aA Z Z ?_;obtain⟨x7,hx7,ht4⟩:=bS ht4;refine z6 (OpR.call [0] fn253 (pQ hx7) Z Z Z (fun _=>Z)) Z ?_;iterate 4 refine aA rfl rfl ?_
 refine zv (OpR.store 2 Z Z Z Z Z Z Z Z) ?_;refine aA Z Z ?_;refine zv (OpR.store 2 Z Z Z Z Z Z Z Z) ?_;refine TL.nil ?_;obtain rfl:=osi ht4;exact⟨_,Gst.only [0,2,3,4] Z,Z⟩
noncomputable def ua (a0:List UInt8) (a1:Int):Option (Int × Int):=
 bnd (xv 10 a0 a1) fun x1=>
 if x1=true then
 some (1,w64 (a1+1))
else
 bnd (xv 13 a0 a1) fun x3=>
 if x3=true then
 bnd (xv 10 a0 (w64 (a1+1))) fun x5=>
 if x5=true then
 some (2,w64 ((w64 (a1+1))+1))
else
 some (3,w64 (a1+1))
else
 some (0,a1)
theorem scan_reader_end_c {a0:List UInt8} {a1:Int} {b0:Nat} {res:Int × Int} (h0:ua a0 a1=some res):zo X 227 [dP b0] [.var b0 [.sl 1 (lB a0),dN a1] 267] (fun x=>(dN res.1)) (fun x=>[.var b0 [.sl 1 (lB a0),dN res.2] 267]):=by
 unfold ua at h0;refine zb (X:=X) Z Tryz.func227 Z Z Tryz.ntmps227 Z Z ?_;refine aS ?_;refine aA Z Z ?_;refine aN Z ?_;refine T.seq ?_;refine T.block ?_;refine aS ?_;refine aA Z Z ?_;obtain⟨x1,hx1,h0⟩:=bS h0;refine z6 (OpR.call [0] fn226 (xY hx1) Z Z Z (fun _=>Z)) Z ?_;refine aA Z Z ?_;refine aN Z ?_;rcases z9 h0 with ⟨c2,h0⟩|⟨c2,h0⟩
 ·refine zf Z (c2) ?_;refine aS ?_;iterate 3 refine aA rfl rfl ?_
  refine z6 (z7 0 Z Z Z Z) Z ?_;iterate 3 refine aA rfl rfl ?_
  refine zv (OpR.store 0 Z Z Z Z Z Z Z Z) ?_;refine aN Z ?_;refine aS ?_;refine aA Z Z ?_;refine aN Z ?_;refine T.ret ?_;obtain rfl:=osi h0;exact rO [0] [2] Z undef (cT Z ResL.nil) Z Z Z Z
 refine ze Z (eN c2) ?_;refine aS ?_;refine aA Z Z ?_;obtain⟨x3,hx3,h0⟩:=bS h0;refine z6 (OpR.call [0] fn226 (xY hx3) Z Z Z (fun _=>Z)) Z ?_;refine aA Z Z ?_;refine aN Z ?_;rcases z9 h0 with ⟨c4,h0⟩|⟨c4,h0⟩;rotate_left
 ·refine ze Z (eN c4) ?_;refine aK Z ?_;refine aS ?_;refine aA Z Z ?_;refine aN Z ?_;refine T.ret ?_;obtain rfl:=osi h0;exact rO [0] [2] Z undef (cT Z ResL.nil) Z Z Z Z
 refine zf Z (c4) ?_;refine aS ?_;iterate 3 refine aA rfl rfl ?_
 refine z6 (z7 0 Z Z Z Z) Z ?_;iterate 3 refine aA rfl rfl ?_
 refine zv (OpR.store 0 Z Z Z Z Z Z Z Z) ?_;refine aN Z ?_;refine T.seq ?_;refine aS ?_;refine aA Z Z ?_;obtain⟨x5,hx5,h0⟩:=bS h0;refine z6 (OpR.call [0] fn226 (xY hx5) Z Z Z (fun _=>Z)) Z ?_;refine aN Z ?_;rcases z9 h0 with ⟨c6,h0⟩|⟨c6,h0⟩;rotate_left
 ·refine ze Z (eN c6) ?_;refine aK Z ?_;refine aS ?_;refine aA Z Z ?_;refine aN Z ?_;refine T.ret ?_;obtain rfl:=osi h0;exact rO [0] [2] Z undef (cT Z ResL.nil) Z Z Z Z
 refine zf Z (c6) ?_;refine aS ?_;iterate 3 refine aA rfl rfl ?_
 refine z6 (z7 0 Z Z Z Z) Z ?_;iterate 3 refine aA rfl rfl ?_
 refine zv (OpR.store 0 Z Z Z Z Z Z Z Z) ?_;refine aN Z ?_;refine aS ?_;refine aA Z Z ?_;refine aN Z ?_;refine T.ret ?_;obtain rfl:=osi h0;exact rO [0] [2] Z undef (cT Z ResL.nil) Z Z Z Z
noncomputable def xa.l1 (a0:List UInt8) (s8:Int × (List scan_Field)):Option (Lp (Int × (List scan_Field)) (Int × (List scan_Field))):=
 bnd (xv 44 a0 s8.1) fun x16=>
 if x16=true then
 bnd (wT a0 (w64 (s8.1+1))) fun x19=>
 bnd (app 48 s8.2 [x19.1]) fun x20=>
 some (Lp.next (x19.2,x20))
else
 some (Lp.done (s8.1,s8.2))
noncomputable def xa (a0:List UInt8) (a1:Int):Option (scan_Row × Int):=
 bnd (wT a0 a1) fun x2=>
 bnd (loop (xa.l1 a0) (x2.2,[x2.1]):Option (Int × (List scan_Field))) fun t5=>
 bnd (ua a0 t5.1) fun x21=>
 some ((⟨t5.2,x21.1⟩:scan_Row),x21.2)
theorem scan_reader_row_c {a0:List UInt8} {a1:Int} {b0:Nat} {res:scan_Row × Int} (h0:xa a0 a1=some res):zo X 193 [dP b0] [.var b0 [.sl 1 (lB a0),dN a1] 267] (fun x=>.agg [.sl 4 (List.map xE res.1.fFields),dN res.1.fEnd]) (fun x=>[.var b0 [.sl 1 (lB a0),dN res.2] 267]):=by
 unfold xa at h0;refine zb (X:=X) Z Tryz.func193 Z Z Tryz.ntmps193 Z Z ?_;refine aS ?_;refine TL.op (OpR.alloc Z Z (fun _=>Z)) Z (fun p1=>?_);refine aN Z ?_;refine aS ?_;refine aA Z Z ?_;obtain⟨x2,hx2,h0⟩:=bS h0;refine z6 (OpR.call [0] fn225 (sE hx2) Z Z Z (fun _=>Z)) Z ?_;refine TL.op (sc Z Z Z Z Z Z Z Z (fun _=>Z)) Z (fun v3=>?_);refine z6 (OpR.build Z Z Z Z Z) Z ?_;refine TL.op (OpR.alloc Z Z (fun _=>Z)) Z (fun p4=>?_);refine zv (OpR.store 3 Z Z Z Z Z Z Z Z) ?_;refine aN Z ?_;refine T.seq ?_;obtain⟨t5,ht5,h0⟩:=bS h0;refine zA (fun S'=>∃ y6:Value,S'=⟨[(3,(dP (blk p4))),(2,(dP (blk p1))),(0,(dP b0))],[.var b0 [.sl 1 (lB a0),dN t5.1] 267,.var (blk p1) [.val (.slice none 0 0),dN 0] 202,.var (blk p4) [.val y6,dN 0] 202,.row y6 (List.map xE t5.2) 4 270],28⟩) (fun _ h=>h) ?_ ?_;rotate_left
 ·rintro _ ⟨y6,rfl⟩;show T X _ _ _;refine aS ?_;refine aA Z Z ?_;obtain⟨x21,hx21,h0⟩:=bS h0;refine z6 (OpR.call [0] fn227 (scan_reader_end_c hx21) Z Z Z (fun _=>Z)) Z ?_;refine aA Z Z ?_;refine zv (OpR.store 2 Z Z Z Z Z Z Z Z) ?_;refine aN Z ?_;refine aS ?_;refine z6 (z7 2 Z Z Z Z) Z ?_;refine zv (OpR.store 1 Z Z Z Z Z Z Z Z) ?_;refine aN Z ?_;refine T.ret ?_;obtain rfl:=osi h0;exact zE (ks:=[0]) (Gst.trans (Gst.only [2] Z) (Gst.trans (zC 3 Z Z (ReS.cons Re.refl ReS.nil) (ReO.same (ReO.var (ReL.cons (Re.base .all) (ReL.cons Re.refl ReL.nil)) (ReO.var (ReL.cons (Re.base .all) (ReL.cons Re.refl ReL.nil)) (ReO.same ReO.nil))))) (Gst.pick [0,1] Z Z))) undef (cV 1 Z Z Z Z ResL.nil) Z Z Z Z
 refine T.block ?_;obtain⟨n9,n14⟩:=zy ht5;refine T.loop (fun n S'=>∃ S'',Gst S' S''∧∃ y7:Value,∃ s8:Int × (List scan_Field),S''=⟨[(3,(dP (blk p4))),(2,(dP (blk p1))),(0,(dP b0))],[.var b0 [.sl 1 (lB a0),dN s8.1] 267,.var (blk p1) [.val (.slice none 0 0),dN 0] 202,.var (blk p4) [.val y7,dN 0] 202,.row y7 (List.map xE s8.2) 4 270],28⟩∧wo (xa.l1 a0) n s8=some t5) n9 ?_ ?_
 ·exact⟨_,gP [0,2,3] [0,1,3,2] Z Z Z,v3,(x2.2,[x2.1]),Z,n14⟩
 rintro n9 _ ⟨_,g,y7,s8,rfl,i13⟩;refine T.ghost g ?_;obtain⟨m10,q11,rfl,q12,i13⟩:=zz i13;unfold xa.l1 at q12;refine T.seq ?_;refine aS ?_;refine aA Z Z ?_;obtain⟨x16,hx16,q12⟩:=bS q12;refine z6 (OpR.call [0] fn226 (xY hx16) Z Z Z (fun _=>Z)) Z ?_;refine aN Z ?_;rcases z9 q12 with ⟨c17,q12⟩|⟨c17,q12⟩;rotate_left
 ·refine ze Z (eN c17) ?_;refine T.exit ?_;obtain rfl:=osi q12;obtain rfl:_=_:=i13;exact⟨_,Gst.only [0,2,3] Z,y7,Z⟩
 refine zf Z (c17) ?_;refine aK Z ?_;refine T.block ?_;refine aS ?_;iterate 3 refine aA rfl rfl ?_
 refine z6 (z7 0 Z Z Z Z) Z ?_;iterate 3 refine aA rfl rfl ?_
 refine zv (OpR.store 0 Z Z Z Z Z Z Z Z) ?_;refine aN Z ?_;obtain⟨x19,hx19,q12⟩:=bS q12;obtain⟨x20,hx20,q12⟩:=bS q12;refine yA zV (fun env18=>[dP (blk p4),.val y7,dP b0,.agg [dN x19.1.fRaw.fAt,dN x19.1.fRaw.fN,dN x19.1.fKind,.sl 2 (List.map zm x19.1.fParts)],.sl 4 (List.map xE [x19.1]),.val (env18 5),dP (blk p4),.dead]) (fun D env18=>[(bif D 3 then .var b0 [.sl 1 (lB a0),dN x19.2] 267 else .var b0 [.sl 1 (lB a0),dN (w64 (s8.1+1))] 267),.var (blk p1) [.val (.slice none 0 0),dN 0] 202,(bif D 7 then .var (blk p4) [.val (env18 5),dN 0] 202 else .var (blk p4) [.val y7,dN 0] 202),(bif D 5 then .row (env18 5) (List.map xE x20) 4 270 else .row y7 (List.map xE s8.2) 4 270)]) [0,1,0,4,12,31,63,127] [0,2,3] _ (by decide +kernel) (by decide +kernel) (fun _=>Z) (fun _=>Z) ?_ (fun _=>Z) (fun _=>Z) ?_;rotate_left
 ·intro env18;obtain rfl:=osi q12;exact⟨m10,Nat.lt_succ_self _,_,Gst.only [0,2,3] Z,(env18 5),(x19.2,x20),Z,i13⟩
 refine aC ?_;refine zi true ?_ (fun _ _ _ _ _ _ _=>Z) ?_
 ·intro D env18 hA;have e5:D 5=false:=hA.no 5 _ rfl rfl;have e7:D 7=false:=hA.no 7 _ rfl rfl;rcases Bool.eq_false_or_eq_true (D 3) with e3|e3
  ·exact zK [(5,false),(7,false),(3,true)] ⟨e5,e7,e3,trivial⟩ (Want.plain Z) (z7 2 Z Z Z Z) (fun x=>Z) (fun x=>Z)
  exact zK [(5,false),(7,false),(3,false)] ⟨e5,e7,e3,trivial⟩ (Want.plain Z) (z7 2 Z Z Z Z) (fun x=>Z) (fun x=>Z)
 refine aC ?_;refine zi true ?_ (fun _ _ _ _ _ _ _=>Z) ?_
 ·intro D env18 hA;have e5:D 5=false:=hA.no 5 _ rfl rfl;have e7:D 7=false:=hA.no 7 _ rfl rfl;exact zK [(5,false),(7,false),(3,false)] ⟨e5,e7,hA.me,trivial⟩ (Want.plain Z) (OpR.call [0] fn225 (sE hx19) Z Z Z (fun _=>Z)) (fun x=>Z) (fun x=>Z)
 refine oT (.sl 4 (List.map xE [x19.1])) (fun _ _=>yN Z Z Z Z Z Z Z) ?_;refine zi true ?_ (fun D hA env18 x j hj hD=>match j,hj,hD with|0,_,_=>Z|1,_,_=>Z|2,_,_=>Z|3,_,_=>Z|4,_,_=>Z|5,hj,_=>absurd Z hj|6,_,_=>Z|7,_,_=>Z|_+8,_,_=>Z) ?_
 ·intro D env18 hA;have e3:D 3=true:=hA.yes 3 _ rfl rfl;have e7:D 7=false:=hA.no 7 _ rfl rfl;exact zK [(3,true),(7,false),(5,false)] ⟨e3,e7,hA.me,trivial⟩ (Want.plain Z) (zM (m:=[x19.1]) xE 3 hx20 Z Z Z Z Z Z Z Z Z (fun _=>Z)) (fun x=>Z) (fun x=>Z)
 refine aC ?_;refine zi true ?_ (fun _ _ _ _ _ _ _=>Z) ?_
 ·intro D env18 hA;have e3:D 3=true:=hA.yes 3 _ rfl rfl;have e5:D 5=true:=hA.yes 5 _ rfl rfl;exact zK [(3,true),(5,true),(7,false)] ⟨e3,e5,hA.me,trivial⟩ (Want.plain Z) (OpR.store 2 Z Z Z Z Z Z Z Z) (fun x=>Z) (fun x=>Z)
 exact trivial
noncomputable def vR.l1 (a0:List UInt8) (s5:(List scan_Row) × Int):Option (Lp ((List scan_Row) × Int) (List scan_Row)):=
 bnd (xK a0 s5.2) fun x13=>
 if x13=true then
 some (Lp.done s5.1)
else
 bnd (xa a0 s5.2) fun x15=>
 bnd (app 32 s5.1 [x15.1]) fun x16=>
 some (Lp.next (x16,x15.2))
noncomputable def vR (a0:List UInt8):Option (List scan_Row):=
 bnd (loop (vR.l1 a0) ([],0):Option (List scan_Row)) fun t2=>
 some t2
theorem scan_All_c {a0:List UInt8} {res:(List scan_Row)} (h0:vR a0=some res):zo X 130 [.sl 1 (lB a0)] [] (fun x=>.sl 2 (List.map xX res)) (fun x=>[]):=by
 unfold vR at h0;refine zb (X:=X) Z Tryz.func130 Z Z Tryz.ntmps130 Z Z ?_;refine aS ?_;refine aA Z Z ?_;refine aN Z ?_;refine aS ?_;refine aA Z Z ?_;refine aN Z ?_;refine T.seq ?_;refine aS ?_;refine aA Z Z ?_;refine z6 (OpR.build Z Z Z Z Z) Z ?_;refine TL.op (xG Z Z (fun _=>Z)) Z (fun p1=>?_);refine aA Z Z ?_;refine aN Z ?_;obtain⟨t2,ht2,h0⟩:=bS h0;refine zA (fun S'=>∃ y3:Value,S'=⟨[(3,.val y3),(2,.val (.slice none 0 0))],[.row y3 (List.map xX t2) 2 202],17⟩) (fun _ h=>h) ?_ ?_;rotate_left
 ·rintro _ ⟨y3,rfl⟩;show T X _ _ _;refine aS ?_;iterate 2 refine aA rfl rfl ?_
  refine aN Z ?_;refine T.ret ?_;obtain rfl:=osi h0;exact zE (ks:=[]) (Gst.trans (Gst.only [2] Z) (Gst.trans (zC 0 Z Z (ReS.cons (Re.base .all) ReS.nil) (ReO.same ReO.nil)) (Gst.pick [] Z Z))) undef (cT Z ResL.nil) Z Z Z Z
 refine T.block ?_;obtain⟨n6,n11⟩:=zy ht2;refine T.loop (fun n S'=>∃ S'',Gst S' S''∧∃ y4:Value,∃ s5:(List scan_Row) × Int,S''=⟨[(4,(dP (blk p1))),(3,.val y4),(2,.val (.slice none 0 0))],[.row y4 (List.map xX s5.1) 2 202,.var (blk p1) [.sl 1 (lB a0),dN s5.2] 267],17⟩∧wo (vR.l1 a0) n s5=some t2) n6 ?_ ?_
 ·exact⟨_,Gst.trans (Gst.only [2,3,4] Z) (Gst.trans (ye (ow:=[.var (blk p1) [.sl 1 (lB a0),dN 0] 267]) 2 202 Z) (Gst.pick [1,0] Z Z)),(.slice none 0 0),([],0),Z,n11⟩
 rintro n6 _ ⟨_,g,y4,s5,rfl,i10⟩;refine T.ghost g ?_;obtain⟨m7,q8,rfl,q9,i10⟩:=zz i10;unfold vR.l1 at q9;refine T.seq ?_;refine aS ?_;refine aA Z Z ?_;obtain⟨x13,hx13,q9⟩:=bS q9;refine z6 (OpR.call [1] fn192 (wB hx13) Z Z Z (fun _=>Z)) Z ?_;refine aA Z Z ?_;refine aN Z ?_;rcases z9 q9 with ⟨c14,q9⟩|⟨c14,q9⟩
 ·refine ze Z (zQ (c14)) ?_;refine T.exit ?_;obtain rfl:=osi q9;obtain rfl:_=_:=i10;exact⟨_,gP [2,3] [0] Z Z Z,y4,Z⟩
 refine zf Z (zR (eN c14)) ?_;refine aK Z ?_;refine T.block ?_;refine T.region ?_;iterate 2 refine aA rfl rfl ?_
 obtain⟨x15,hx15,q9⟩:=bS q9;refine z6 (OpR.call [1] fn193 (scan_reader_row_c hx15) Z Z Z (fun _=>Z)) Z ?_;refine z6 (yN Z Z Z Z Z Z Z) Z ?_;obtain⟨x16,hx16,q9⟩:=bS q9;refine TL.op (zM (m:=[x15.1]) xX 0 hx16 Z Z Z Z Z Z Z Z Z (fun _=>Z)) Z (fun v17=>?_);refine aA Z Z ?_;refine TL.nil ?_;obtain rfl:=osi q9;exact⟨m7,Nat.lt_succ_self _,_,Gst.only [2,3,4] Z,v17,(x16,x15.2),Z,i10⟩
noncomputable def pk:Option (Int × (List UInt8)):=
 bnd ((mkc 1 0:Option (List UInt8))) fun x1=>
 some (0,x1)
theorem arena_New_2_c {res:Int × (List UInt8)} (h0:pk=some res):zo X 128 [.val (.slice none 0 0)] [] (fun x=>.tup [dP (blk (vn x 0)),dN res.1]) (fun x=>[.var (blk (vn x 0)) [.val (vn x 1)] 264,.row (vn x 1) (lB res.2) 1 5]):=by
 unfold pk at h0;refine zb (X:=X) Z Tryz.func128 Z Z Tryz.ntmps128 Z Z ?_;refine aS ?_;iterate 2 refine aA rfl rfl ?_
 refine aN Z ?_;refine T.seq ?_;refine aS ?_;iterate 2 refine aA rfl rfl ?_
 refine z6 (zk (OpR.pure Z) (boolE (show (decide ((0:Int)>4096))=false by decide))) Z ?_;refine aN Z ?_;refine ze Z Z ?_;refine aK Z ?_;refine aS ?_;iterate 2 refine aA rfl rfl ?_
 obtain⟨x1,hx1,h0⟩:=bS h0;refine TL.op (qq ww hx1 Z Z Z Z Z Z Z (fun _=>Z)) Z (fun v2=>?_);refine z6 (OpR.build Z Z Z Z Z) Z ?_;refine TL.op (xG Z Z (fun _=>Z)) Z (fun p3=>?_);refine aA Z Z ?_;refine aN Z ?_;refine aS ?_;iterate 3 refine aA rfl rfl ?_
 refine z6 (z7 1 Z Z Z Z) Z ?_;refine aA Z Z ?_;refine z6 (OpR.copyNil 0 Z Z Z Z Z Z) Z ?_;refine aN Z ?_;refine aS ?_;iterate 3 refine aA rfl rfl ?_
 refine aN Z ?_;refine T.ret ?_;obtain rfl:=osi h0;exact rP [0,1] [2,3] [1,0] Z Z Z (.tuple #[p3,v2]) (cT Z (cT Z ResL.nil)) Z Z Z Z
noncomputable def vl (a0:Int):Option (grid_Grid × Int × (List UInt8)):=
 bnd (pk) fun x2=>
 some ((⟨(⟨none⟩:tTr),false,2⟩:grid_Grid),a0,x2.2)
theorem vP {a0:Int} {res:grid_Grid × Int × (List UInt8)} (h0:vl a0=some res):zo X 129 [dN a0] [] (fun x=>.tup [.agg [(eOP res.1.fRows.fRoot),dT res.1.fTail,dN res.1.fEnd],dP (blk (vn x 0)),dN res.2.1]) (fun x=>[.var (blk (vn x 0)) [.val (vn x 1)] 264,.row (vn x 1) (lB res.2.2) 1 5]):=by
 unfold vl at h0;refine zb (X:=X) Z Tryz.func129 Z Z Tryz.ntmps129 Z Z ?_;refine aS ?_;refine TL.op (OpR.alloc Z Z (fun _=>Z)) Z (fun p1=>?_);iterate 2 refine aA rfl rfl ?_
 refine aN Z ?_;refine aS ?_;obtain⟨x2,hx2,h0⟩:=bS h0;refine TL.op (OpR.call [] fn128 (arena_New_2_c hx2) Z Z Z (fun _=>Z)) Z (fun w3=>?_);iterate 5 refine aA rfl rfl ?_
 refine aN Z ?_;refine aS ?_;refine z6 (OpR.build Z Z Z Z Z) Z ?_;iterate 2 refine aA rfl rfl ?_
 refine zv (OpR.store 0 Z Z Z Z Z Z Z Z) ?_;iterate 2 refine aA rfl rfl ?_
 refine aN Z ?_;refine T.ret ?_;obtain rfl:=osi h0;exact rO [1,2] [2,3,4] Z (.tuple #[(vn w3 0),(vn w3 1)]) (cV 0 Z Z Z Z (cT Z (cT Z ResL.nil))) Z Z Z Z
noncomputable def vB (a0:arena_Span) (a1:Int) (a2:List arena_Span):Option (Int × (List arena_Span)):=
 if a0.fN<1 then
 some (a1,a2)
else
 bnd (if (w64 ((a2.length:Int)-1))≥0 then
 bnd (idx a2 (w64 ((a2.length:Int)-1))) fun x7=>
 bnd (sb x7 a0) fun x8=>
 if x8.2=true then
 some (Ex.ret (w64 (a1+a0.fN),(a2.set (w64 ((a2.length:Int)-1)).toNat x8.1)))
else
 some (Ex.brk ())
else
 some (Ex.brk ()):Option (Ex Unit (Int × (List arena_Span)))) fun t3=>match t3 with
| .brk u4=>
 bnd (app 16 a2 [a0]) fun x12=>
 some (w64 (a1+a0.fN),x12)
| .ret u4=>some u4
theorem pn {a0:arena_Span} {a1:Int} {a2:List arena_Span} {b0:Nat} {v1:Value} {res:Int × (List arena_Span)} (h0:vB a0 a1 a2=some res):zo X 254 [dP b0,.agg [dN a0.fAt,dN a0.fN]] [.var b0 [.val v1,dN a1] 140,.row v1 (List.map zm a2) 2 142] (fun x=>.tup []) (fun x=>[.var b0 [.val (vn x 0),dN res.1] 140,.row (vn x 0) (List.map zm res.2) 2 142]):=by
 unfold vB at h0;refine zb (X:=X) Z Tryz.func254 Z Z Tryz.ntmps254 Z Z ?_;refine aS ?_;refine z6 (zD Z Z) Z ?_;refine aN Z ?_;refine T.seq ?_;refine aS ?_;iterate 3 refine aA rfl rfl ?_
 refine aN Z ?_;rcases z9 h0 with ⟨c1,h0⟩|⟨c1,h0⟩
 ·refine zf Z (eT c1) ?_;refine T.ret ?_;obtain rfl:=osi h0;exact rO [0,1] [] Z (.tuple #[v1]) ResL.nil Z Z Z Z
 refine ze Z (eF c1) ?_;refine aK Z ?_;refine T.seq ?_;refine yA zV (fun env2=>[dP b0,dP b0,.val (.pointer (some ⟨b0,1,none⟩)),dN a1,.nod [dN a0.fN],dN a0.fN,dN (w64 (a1+a0.fN)),dP b0,.val (.pointer (some ⟨b0,1,none⟩)),.dead]) (fun D env2=>[(bif D 9 then .var b0 [.val v1,dN (w64 (a1+a0.fN))] 140 else .var b0 [.val v1,dN a1] 140),.row v1 (List.map zm a2) 2 142]) [0,1,3,7,0,16,63,127,255,511] [0,3] _ (by decide +kernel) (by decide +kernel) (fun _=>Z) (fun _=>Z) ?_ (fun _=>Z) (fun _=>Z) ?_
 ·iterate 3 refine aC ?_
  refine zi true ?_ (fun _ _ _ _ _ _ _=>Z) ?_
  ·intro D env2 hA;have e9:D 9=false:=hA.no 9 _ rfl rfl;exact zK [(9,false)] ⟨e9,trivial⟩ (Want.plain Z) (z7 0 Z Z Z Z) (fun x=>Z) (fun x=>Z)
  iterate 5 refine aC ?_
  refine zi true ?_ (fun _ _ _ _ _ _ _=>Z) ?_
  ·intro D env2 hA;exact zK [(9,false)] ⟨hA.me,trivial⟩ (Want.plain Z) (OpR.store 0 Z Z Z Z Z Z Z Z) (fun x=>Z) (fun x=>Z)
  exact trivial
 intro env2;show T X _ _ _;refine T.seq ?_;refine aS ?_;iterate 3 refine aA rfl rfl ?_
 refine z6 (z7 0 Z Z Z Z) Z ?_;refine z6 (yH zm 1 Z Z Z Z) Z ?_;iterate 2 refine aA rfl rfl ?_
 refine aN Z ?_;refine aS ?_;iterate 2 refine aA rfl rfl ?_
 refine aN Z ?_;obtain⟨t3,ht3,h0⟩:=bS h0;refine zA (fun S'=>∃ u4,t3=Ex.brk u4∧S'=⟨[(3,.nod [dN a0.fAt,dN a0.fN]),(0,(dP b0))],[.var b0 [.val v1,dN (w64 (a1+a0.fN))] 140,.row v1 (List.map zm a2) 2 142],57⟩) (fun _ h=>h) ?_ ?_;rotate_left
 ·rintro _ ⟨u4,rfl,rfl⟩;show T X _ _ _;obtain⟨x12,hx12,h0⟩:=bS h0;refine yA zV (fun env11=>[dP b0,dP b0,dP b0,dP b0,.val v1,.agg [dN a0.fAt,dN a0.fN],.sl 2 (List.map zm [a0]),.val (env11 7),dP b0,dP b0,.dead]) (fun D env11=>[(bif D 10 then .var b0 [.val (env11 7),dN (w64 (a1+a0.fN))] 140 else .var b0 [.val v1,dN (w64 (a1+a0.fN))] 140),(bif D 7 then .row (env11 7) (List.map zm x12) 2 142 else .row v1 (List.map zm a2) 2 142)]) [0,0,2,6,14,0,32,126,255,511,1023] [] _ (by decide +kernel) (by decide +kernel) (fun _=>Z) (fun _=>Z) ?_ (fun _=>Z) (fun _=>Z) ?_;rotate_left
  ·intro env11;obtain rfl:=osi h0;exact xg (ks:=[0,1]) (Gst.only [] Z) (.tuple #[(env11 7)]) ResL.nil Z Z Z Z
  iterate 4 refine aC ?_
  refine zi true ?_ (fun _ _ _ _ _ _ _=>Z) ?_
  ·intro D env11 hA;have e7:D 7=false:=hA.no 7 _ rfl rfl;have e10:D 10=false:=hA.no 10 _ rfl rfl;exact zK [(7,false),(10,false)] ⟨e7,e10,trivial⟩ (Want.plain Z) (z7 0 Z Z Z Z) (fun x=>Z) (fun x=>Z)
  refine aC ?_;refine oT (.sl 2 (List.map zm [a0])) (fun _ _=>yN Z Z Z Z Z Z Z) ?_;refine zi true ?_ (fun D hA env11 x j hj hD=>match j,hj,hD with|0,_,_=>Z|1,_,_=>Z|2,_,_=>Z|3,_,_=>Z|4,_,_=>Z|5,_,_=>Z|6,_,_=>Z|7,hj,_=>absurd Z hj|8,_,_=>Z|9,_,_=>Z|10,_,_=>Z|_+11,_,_=>Z) ?_
  ·intro D env11 hA;have e10:D 10=false:=hA.no 10 _ rfl rfl;exact zK [(10,false),(7,false)] ⟨e10,hA.me,trivial⟩ (Want.plain Z) (zM (m:=[a0]) zm 1 hx12 Z Z Z Z Z Z Z Z Z (fun _=>Z)) (fun x=>Z) (fun x=>Z)
  iterate 2 refine aC ?_
  refine zi true ?_ (fun _ _ _ _ _ _ _=>Z) ?_
  ·intro D env11 hA;have e7:D 7=true:=hA.yes 7 _ rfl rfl;exact zK [(7,true),(10,false)] ⟨e7,hA.me,trivial⟩ (Want.plain Z) (OpR.store 0 Z Z Z Z Z Z Z Z) (fun x=>Z) (fun x=>Z)
  exact trivial
 rcases z9 ht3 with ⟨c5,ht3⟩|⟨c5,ht3⟩;rotate_left
 ·refine ze Z (eF c5) ?_;refine T.skip ?_;obtain rfl:=osi ht3;exact⟨_,Gst.only [0,3] Z,_,Z,Z⟩
 refine zf Z (eT c5) ?_;refine T.seq ?_;obtain⟨x7,hx7,ht3⟩:=bS ht3;obtain⟨x8,hx8,ht3⟩:=bS ht3;refine yA zV (fun env6=>[dP b0,dP b0,dP b0,.val v1,dN (w64 ((a2.length:Int)-1)),.val (.pointer (some ⟨blk v1,(w64 ((a2.length:Int)-1)).toNat*2,none⟩)),.agg [dN x7.fAt,dN x7.fN],.agg [dN a0.fAt,dN a0.fN],.tup [.agg [dN x8.1.fAt,dN x8.1.fN],dT x8.2],.tup [.agg [dN x8.1.fAt,dN x8.1.fN],dT x8.2],.agg [dN x8.1.fAt,dN x8.1.fN],dT x8.2,dP (blk (env6 12)),.dead,dT x8.2]) (fun D env6=>[.var b0 [.val v1,dN (w64 (a1+a0.fN))] 140,.row v1 (List.map zm a2) 2 142]++(bif D 12 then [(bif D 13 then .var (blk (env6 12)) [dN x8.1.fAt,dN x8.1.fN] 142 else .var (blk (env6 12)) [dN 0,dN 0] 142)] else [])) [0,1,3,7,0,31,63,0,255,511,1023,1023,0,6143,16383] [0,3,4,5,6] _ (by decide +kernel) (by decide +kernel) (fun _=>Z) (fun _=>Z) ?_ (fun _=>Z) (fun _=>Z) ?_;rotate_left
 ·intro env6;show T X _ _ _;refine aS ?_;refine aA Z Z ?_;refine aN Z ?_;rcases z9 ht3 with ⟨c9,ht3⟩|⟨c9,ht3⟩;rotate_left
  ·refine ze Z (eN c9) ?_;refine T.skip ?_;obtain rfl:=osi ht3;exact⟨_,gP [0,3] [0,1] Z Z Z,_,Z,Z⟩
  refine zf Z (c9) ?_;refine T.seq ?_;refine yA zV (fun env10=>[dP b0,dP b0,dP b0,.val v1,dN (w64 ((a2.length:Int)-1)),.agg [dN x8.1.fAt,dN x8.1.fN],.val (.pointer (some ⟨blk v1,(w64 ((a2.length:Int)-1)).toNat*2,none⟩)),.dead]) (fun D env10=>[.var b0 [.val v1,dN (w64 (a1+a0.fN))] 140,(bif D 7 then .row v1 (List.map zm (a2.set (w64 ((a2.length:Int)-1)).toNat x8.1)) 2 142 else .row v1 (List.map zm a2) 2 142),.var (blk (env6 12)) [dN x8.1.fAt,dN x8.1.fN] 142]) [0,1,3,7,0,0,63,127] [0,3] _ (by decide +kernel) (by decide +kernel) (fun _=>Z) (fun _=>Z) ?_ (fun _=>Z) (fun _=>Z) ?_;rotate_left
  ·intro env10;show T X _ _ _;refine T.ret ?_;obtain rfl:=osi ht3;obtain rfl:=osi h0;exact rP [0,1] [] [0,1] Z Z Z (.tuple #[v1]) ResL.nil Z Z Z Z
  iterate 3 refine aC ?_
  refine oT (.val v1) (fun _ _=>z7 0 Z Z Z Z) ?_;refine aC ?_;refine oT (.agg [dN x8.1.fAt,dN x8.1.fN]) (fun _ _=>z7 2 Z Z Z Z) ?_;refine zi true ?_ (fun _ _ _ _ _ _ _=>Z) ?_
  ·intro D env10 hA;have e7:D 7=false:=hA.no 7 _ rfl rfl;exact zK [(7,false)] ⟨e7,trivial⟩ (Want.plain Z) (zO zm 1 hx7 Z Z Z Z Z Z Z) (fun x=>Z) (fun x=>Z)
  refine zi true ?_ (fun _ _ _ _ _ _ _=>Z) ?_
  ·intro D env10 hA;exact zK [(7,false)] ⟨hA.me,trivial⟩ (Want.plain Z) (yD (j:=w64 ((a2.length:Int)-1)) zm x8.1 1 hx7 Z Z Z Z Z Z Z Z Z) (fun x=>Z) (fun x=>Z)
  exact trivial
 iterate 3 refine aC ?_
 refine oT (.val v1) (fun _ _=>z7 0 Z Z Z Z) ?_;refine aC ?_;refine oT (.val (.pointer (some ⟨blk v1,(w64 ((a2.length:Int)-1)).toNat*2,none⟩))) (fun _ _=>zO zm 1 hx7 Z Z Z Z Z Z Z) ?_;refine oT (.agg [dN x7.fAt,dN x7.fN]) (fun _ _=>zH (j:=w64 ((a2.length:Int)-1)) zm 1 hx7 Z Z Z Z) ?_;refine aC ?_;refine oT (.tup [.agg [dN x8.1.fAt,dN x8.1.fN],dT x8.2]) (fun _ _=>zh fn271 (arena_Join_c hx8) Z) ?_;iterate 3 refine aC ?_
 refine zi true ?_ (fun D hA env6 x j hj hD=>match j,hj,hD with|0,_,_=>Z|1,_,_=>Z|2,_,_=>Z|3,_,_=>Z|4,_,_=>Z|5,_,_=>Z|6,_,_=>Z|7,_,_=>Z|8,_,_=>Z|9,_,_=>Z|10,_,_=>Z|11,_,_=>Z|12,hj,_=>absurd Z hj|13,_,_=>Z|14,_,_=>Z|_+15,_,_=>Z) ?_
 ·intro D env6 hA;have e13:D 13=false:=hA.no 13 _ rfl rfl;exact zK [(13,false),(12,false)] ⟨e13,hA.me,trivial⟩ (Want.plain Z) (OpR.alloc Z Z (fun _=>Z)) (fun x=>Z) (fun x=>Z)
 refine zi true ?_ (fun _ _ _ _ _ _ _=>Z) ?_
 ·intro D env6 hA;have e12:D 12=true:=hA.yes 12 _ rfl rfl;exact zK [(12,true),(13,false)] ⟨e12,hA.me,trivial⟩ (Want.plain Z) (OpR.store 2 Z Z Z Z Z Z Z Z) (fun x=>Z) (fun x=>Z)
 refine aC ?_;exact trivial
noncomputable def vS.l1 (a0:List arena_Span) (s6:Int × Int × (List arena_Span)):Option (Lp (Int × Int × (List arena_Span)) (Int × (List arena_Span))):=
 if s6.1<(a0.length:Int) then
 bnd (idx a0 s6.1) fun x15=>
 bnd (vB x15 s6.2.1 s6.2.2) fun x17=>
 some (Lp.next (w64 (s6.1+1),x17.1,x17.2))
else
 some (Lp.done (s6.2.1,s6.2.2))
noncomputable def vS (a0:List arena_Span):Option piece_Text:=
 bnd (loop (vS.l1 a0) (0,0,[]):Option (Int × (List arena_Span))) fun t3=>
 some (⟨t3.2,t3.1⟩:piece_Text)
theorem piece_Of_c {a0:List arena_Span} {res:piece_Text} (h0:vS a0=some res):zo X 228 [.sl 2 (List.map zm a0)] [] (fun x=>.agg [.sl 2 (List.map zm res.fL),dN res.fN]) (fun x=>[]):=by
 unfold vS at h0;refine zb (X:=X) Z Tryz.func228 Z Z Tryz.ntmps228 Z Z ?_;refine aS ?_;refine TL.op (OpR.alloc Z Z (fun _=>Z)) Z (fun p1=>?_);refine aN Z ?_;refine aS ?_;refine TL.op (OpR.alloc Z Z (fun _=>Z)) Z (fun p2=>?_);refine aN Z ?_;refine T.seq ?_;refine aS ?_;refine aA Z Z ?_;refine z6 (zk (OpR.pure Z) (xn (w9 _ _))) Z ?_;refine aA Z Z ?_;refine aN Z ?_;obtain⟨t3,ht3,h0⟩:=bS h0;refine zA (fun S'=>∃ y4:Value,S'=⟨[(3,(dP (blk p2))),(2,(dP (blk p1)))],[.var (blk p1) [.val (.slice none 0 0),dN 0] 140,.var (blk p2) [.val y4,dN t3.1] 140,.row y4 (List.map zm t3.2) 2 142],16⟩) (fun _ h=>h) ?_ ?_;rotate_left
 ·rintro _ ⟨y4,rfl⟩;show T X _ _ _;refine aS ?_;refine z6 (z7 1 Z Z Z Z) Z ?_;refine zv (OpR.store 0 Z Z Z Z Z Z Z Z) ?_;refine aN Z ?_;refine T.ret ?_;obtain rfl:=osi h0;exact zE (ks:=[]) (Gst.trans (Gst.only [2] Z) (Gst.trans (zC 2 Z Z (ReS.cons Re.refl ReS.nil) (ReO.var (ReL.cons (Re.base .all) (ReL.cons Re.refl ReL.nil)) (ReO.var (ReL.cons (Re.base .all) (ReL.cons Re.refl ReL.nil)) (ReO.same ReO.nil)))) (Gst.pick [0] Z Z))) undef (cV 0 Z Z Z Z ResL.nil) Z Z Z Z
 refine T.block ?_;obtain⟨n7,n12⟩:=zy ht3;refine T.loop (fun n S'=>∃ S'',Gst S' S''∧∃ y5:Value,∃ s6:Int × Int × (List arena_Span),S''=⟨[(8,(dN s6.1)),(7,(dN (a0.length:Int))),(6,.sl 2 (List.map zm a0)),(3,(dP (blk p2))),(2,(dP (blk p1)))],[.var (blk p1) [.val (.slice none 0 0),dN 0] 140,.var (blk p2) [.val y5,dN s6.2.1] 140,.row y5 (List.map zm s6.2.2) 2 142],16⟩∧wo (vS.l1 a0) n s6=some t3) n7 ?_ ?_
 ·exact⟨_,Gst.trans (Gst.only [2,3,6,7,8] Z) (ye (ow:=[.var (blk p1) [.val (.slice none 0 0),dN 0] 140,.var (blk p2) [.val (.slice none 0 0),dN 0] 140]) 2 142 Z),(.slice none 0 0),(0,0,[]),Z,n12⟩
 rintro n7 _ ⟨_,g,y5,s6,rfl,i11⟩;refine T.ghost g ?_;obtain⟨m8,q9,rfl,q10,i11⟩:=zz i11;unfold vS.l1 at q10;refine aS ?_;refine aA Z Z ?_;refine aN Z ?_;refine T.seq ?_;rcases z9 q10 with ⟨c14,q10⟩|⟨c14,q10⟩;rotate_left
 ·refine ze Z (eF c14) ?_;refine T.exit ?_;obtain rfl:=osi q10;obtain rfl:_=_:=i11;exact⟨_,Gst.only [2,3] Z,y5,Z⟩
 refine zf Z (eT c14) ?_;refine aK Z ?_;refine T.seq ?_;refine T.block ?_;refine aS ?_;obtain⟨x15,hx15,q10⟩:=bS q10;refine z6 (zp zm hx15 Z Z Z Z Z) Z ?_;refine aA Z Z ?_;refine TL.op (OpR.alloc Z Z (fun _=>Z)) Z (fun p16=>?_);refine zv (OpR.store 3 Z Z Z Z Z Z Z Z) ?_;refine aN Z ?_;refine T.region ?_;refine z6 (z7 3 Z Z Z Z) Z ?_;obtain⟨x17,hx17,q10⟩:=bS q10;refine TL.op (OpR.call [1,2] fn254 (pn hx17) Z Z Z (fun _=>Z)) Z (fun w18=>?_);refine aN Z ?_;refine T.region ?_;iterate 2 refine aA rfl rfl ?_
 refine TL.nil ?_;obtain rfl:=osi q10;exact⟨m8,Nat.lt_succ_self _,_,gP [2,3,6,7,8] [0,1,2] Z Z Z,(vn w18 0),(w64 (s6.1+1),x17.1,x17.2),Z,i11⟩
noncomputable def r4 (a0:scan_Field):Option cell_Cell:=
 bnd (vS a0.fParts) fun x3=>
 some (⟨x3,a0.fRaw,true⟩:cell_Cell)
theorem cell_Load_c {a0:scan_Field} {res:cell_Cell} (h0:r4 a0=some res):zo X 194 [.agg [dN a0.fRaw.fAt,dN a0.fRaw.fN,dN a0.fKind,.sl 2 (List.map zm a0.fParts)]] [] (fun x=>.agg [.sl 2 (List.map zm res.fText.fL),dN res.fText.fN,dN res.fRaw.fAt,dN res.fRaw.fN,dT res.fKept]) (fun x=>[]):=by
 unfold r4 at h0;refine zb (X:=X) Z Tryz.func194 Z Z Tryz.ntmps194 Z Z ?_;refine aS ?_;refine z6 (zD Z Z) Z ?_;refine TL.op (OpR.alloc Z Z (fun _=>Z)) Z (fun p1=>?_);refine aN Z ?_;refine T.seq ?_;obtain⟨x3,hx3,h0⟩:=bS h0;refine yA zV (fun env2=>[.nod [.sl 2 (List.map zm a0.fParts)],.sl 2 (List.map zm a0.fParts),.agg [.sl 2 (List.map zm x3.fL),dN x3.fN],.nod [dN a0.fRaw.fAt,dN a0.fRaw.fN,dN a0.fKind,.sl 2 (List.map zm a0.fParts)],.agg [dN a0.fRaw.fAt,dN a0.fRaw.fN],.agg [.sl 2 (List.map zm x3.fL),dN x3.fN,dN a0.fRaw.fAt,dN a0.fRaw.fN,dT true],.dead]) (fun D env2=>[(bif D 6 then .var (blk p1) [.sl 2 (List.map zm x3.fL),dN x3.fN,dN a0.fRaw.fAt,dN a0.fRaw.fN,dT true] 144 else .var (blk p1) [.val (.slice none 0 0),dN 0,dN 0,dN 0,dT false] 144)]) [0,1,3,0,8,31,63] [2] _ (by decide +kernel) (by decide +kernel) (fun _=>Z) (fun _=>Z) ?_ (fun _=>Z) (fun _=>Z) ?_;rotate_left
 ·intro env2;show T X _ _ _;refine T.ret ?_;obtain rfl:=osi h0;exact rO [] [2] Z undef (cV 0 Z Z Z Z ResL.nil) Z Z Z Z
 iterate 2 refine aC ?_
 refine oT (.agg [.sl 2 (List.map zm x3.fL),dN x3.fN]) (fun _ _=>zh fn228 (piece_Of_c hx3) Z) ?_;iterate 2 refine aC ?_
 refine oT (.agg [.sl 2 (List.map zm x3.fL),dN x3.fN,dN a0.fRaw.fAt,dN a0.fRaw.fN,dT true]) (fun _ _=>OpR.build Z Z Z Z Z) ?_;refine zi true ?_ (fun _ _ _ _ _ _ _=>Z) ?_
 ·intro D env2 hA;exact zK [(6,false)] ⟨hA.me,trivial⟩ (Want.plain Z) (OpR.store 0 Z Z Z Z Z Z Z Z) (fun x=>Z) (fun x=>Z)
 exact trivial
noncomputable def tB (a0:piece_Text):Option Int:=
 some a0.fN
theorem piece_Text_Len_c {a0:piece_Text} {res:Int} (h0:tB a0=some res):zo X 195 [.agg [.sl 2 (List.map zm a0.fL),dN a0.fN]] [] (fun x=>(dN res)) (fun x=>[]):=by
 unfold tB at h0;refine zb (X:=X) Z Tryz.func195 Z Z Tryz.ntmps195 Z Z ?_;refine aS ?_;refine z6 (zD Z Z) Z ?_;refine aA Z Z ?_;refine aN Z ?_;refine aS ?_;iterate 3 refine aA rfl rfl ?_
 refine aN Z ?_;refine T.ret ?_;obtain rfl:=osi h0;exact rO [] [2] Z undef (cT Z ResL.nil) Z Z Z Z
noncomputable def uj.l1 (a0:scan_Row) (s7:Int × (List cell_Cell)):Option (Lp (Int × (List cell_Cell)) (Ex (List cell_Cell) (row_Row × Int))):=
 if s7.1<(a0.fFields.length:Int) then
 bnd (idx a0.fFields s7.1) fun x16=>
 bnd (r4 x16) fun x19=>
 bnd (idx s7.2 s7.1) fun x20=>
 bnd (idx (s7.2.set s7.1.toNat x19) s7.1) fun x21=>
 bnd (tB x21.fText) fun x22=>
 if x22>400 then
 some (Lp.done (Ex.ret ((⟨[],0,false⟩:row_Row),7)))
else
 some (Lp.next (w64 (s7.1+1),(s7.2.set s7.1.toNat x19)))
else
 some (Lp.done (Ex.brk s7.2))
noncomputable def uj (a0:scan_Row):Option (row_Row × Int):=
 if (a0.fFields.length:Int)>40 then
 some ((⟨[],0,false⟩:row_Row),6)
else
 bnd (mkz 56 (a0.fFields.length:Int) ((⟨(⟨[],0⟩:piece_Text),(⟨0,0⟩:arena_Span),false⟩:cell_Cell):cell_Cell)) fun x4=>
 bnd (loop (uj.l1 a0) (0,x4):Option (Ex (List cell_Cell) (row_Row × Int))) fun t5=>match t5 with
| .brk u6=>
 some ((⟨u6,a0.fEnd,false⟩:row_Row),0)
| .ret u6=>some u6
theorem row_Load_c {a0:scan_Row} {res:row_Row × Int} (h0:uj a0=some res):zo X 131 [.agg [.sl 4 (List.map xE a0.fFields),dN a0.fEnd]] [] (fun x=>.tup [.agg [.sl 5 (List.map zj res.1.fCells),dN res.1.fEnd,dT res.1.fHidden],dN res.2]) (fun x=>[]):=by
 unfold uj at h0;refine zb (X:=X) Z Tryz.func131 Z Z Tryz.ntmps131 Z Z ?_;refine aS ?_;refine z6 (zD Z Z) Z ?_;refine TL.op (OpR.alloc Z Z (fun _=>Z)) Z (fun p1=>?_);refine aA Z Z ?_;refine aN Z ?_;refine T.seq ?_;refine aS ?_;iterate 2 refine aA rfl rfl ?_
 refine z6 (zk (OpR.pure Z) (xn (w9 _ _))) Z ?_;refine aA Z Z ?_;refine aN Z ?_;rcases z9 h0 with ⟨c2,h0⟩|⟨c2,h0⟩
 ·refine zf Z (eT c2) ?_;refine aS ?_;refine z6 (OpR.build Z Z Z Z Z) Z ?_;refine zv (OpR.store 0 Z Z Z Z Z Z Z Z) ?_;refine aA Z Z ?_;refine aN Z ?_;refine T.ret ?_;obtain rfl:=osi h0;exact zE (ks:=[]) (Gst.trans (Gst.only [2,3] Z) (Gst.denil (ReS.cons Re.refl (ReS.cons Re.refl ReS.nil)) (ReO.var (ReL.cons (Re.base .nil) (ReL.cons Re.refl (ReL.cons Re.refl ReL.nil))) ReO.nil))) undef (cV 0 Z Z Z Z (cT Z ResL.nil)) Z Z Z Z
 refine ze Z (eF c2) ?_;refine aK Z ?_;refine T.seq ?_;obtain⟨x4,hx4,h0⟩:=bS h0;refine yA zV (fun env3=>[.nod [.sl 4 (List.map xE a0.fFields),dN a0.fEnd],.sl 4 (List.map xE a0.fFields),dN (a0.fFields.length:Int),.val (env3 3),.nod [dN a0.fEnd],dN a0.fEnd,.agg [.val (env3 3),dN a0.fEnd,dT false],dP (blk (env3 7)),.dead]) (fun D env3=>[.var (blk p1) [.val (.slice none 0 0),dN 0,dT false] 49]++(bif D 3 then [.row (env3 3) (List.map zj x4) 5 144] else [])++(bif D 7 then [(bif D 8 then .var (blk (env3 7)) [.val (env3 3),dN a0.fEnd,dT false] 49 else .var (blk (env3 7)) [.val (.slice none 0 0),dN 0,dT false] 49)] else [])) [0,1,3,7,0,16,63,0,255] [1,2,3,4] _ (by decide +kernel) (by decide +kernel) (fun _=>Z) (fun _=>Z) ?_ (fun _=>Z) (fun _=>Z) ?_
 ·iterate 2 refine aC ?_
  refine oT ((dN (a0.fFields.length:Int))) (fun _ _=>zk (OpR.pure Z) (xn (w9 _ _))) ?_;refine zi true ?_ (fun D hA env3 x j hj hD=>match j,hj,hD with|0,_,_=>rfl|1,_,_=>rfl|2,_,_=>rfl|3,hj,_=>absurd rfl hj|4,_,_=>rfl|5,_,_=>rfl|6,_,hD=>absurd hD (by rw[hA.no 6 _ rfl rfl]; decide)|7,_,_=>rfl|8,_,_=>rfl|_+9,_,_=>rfl) ?_
  ·intro D env3 hA;have e8:D 8=false:=hA.no 8 _ rfl rfl;rcases Bool.eq_false_or_eq_true (D 7) with e7|e7;rotate_left
   ·exact zK [(8,false),(7,false),(3,false)] ⟨e8,e7,hA.me,trivial⟩ (Want.plain Z) (qo zj hx4 Z Z Z Z Z Z Z Z Z Z (ReL.cons (Re.base .nil) (ReL.cons Re.refl (ReL.cons Re.refl (ReL.cons Re.refl (ReL.cons Re.refl ReL.nil))))) Z (fun _=>Z)) (fun x=>Z) (fun x=>Z)
   exact zK [(8,false),(7,true),(3,false)] ⟨e8,e7,hA.me,trivial⟩ (Want.plain Z) (OpR.pick [0,2,1] (qo zj hx4 Z Z Z Z Z Z Z Z Z Z (ReL.cons (Re.base .nil) (ReL.cons Re.refl (ReL.cons Re.refl (ReL.cons Re.refl (ReL.cons Re.refl ReL.nil))))) Z (fun _=>Z)) (fun _=>Z) Z) (fun x=>Z) (fun x=>Z)
  iterate 2 refine aC ?_
  refine zi true (fun D env3 hA=>OpS.same (d:=.agg [.val (env3 3),dN a0.fEnd,dT false]) (Want.plain Z) (fun x=>Z) (fun x=>Z) (OpR.build Z Z Z Z Z)) (fun _ _ _ _ _ _ _=>Z) ?_;refine zi true ?_ (fun D hA env3 x j hj hD=>match j,hj,hD with|0,_,_=>Z|1,_,_=>Z|2,_,_=>Z|3,_,_=>Z|4,_,_=>Z|5,_,_=>Z|6,_,_=>Z|7,hj,_=>absurd Z hj|8,_,_=>Z|_+9,_,_=>Z) ?_
  ·intro D env3 hA;have e8:D 8=false:=hA.no 8 _ rfl rfl;rcases Bool.eq_false_or_eq_true (D 3) with e3|e3
   ·exact zK [(8,false),(3,true),(7,false)] ⟨e8,e3,hA.me,trivial⟩ (Want.plain Z) (OpR.alloc Z Z (fun _=>Z)) (fun x=>Z) (fun x=>Z)
   exact zK [(8,false),(3,false),(7,false)] ⟨e8,e3,hA.me,trivial⟩ (Want.plain Z) (OpR.alloc Z Z (fun _=>Z)) (fun x=>Z) (fun x=>Z)
  refine zi true ?_ (fun _ _ _ _ _ _ _=>Z) ?_
  ·intro D env3 hA;have e3:D 3=true:=hA.yes 3 _ rfl rfl;have e7:D 7=true:=hA.yes 7 _ rfl rfl;exact zK [(3,true),(7,true),(8,false)] ⟨e3,e7,hA.me,trivial⟩ (Want.plain Z) (OpR.store 2 Z Z Z Z Z Z Z Z) (fun x=>Z) (fun x=>Z)
  exact trivial
 intro env3;show T X _ _ _;refine T.seq ?_;refine aS ?_;iterate 2 refine aA rfl rfl ?_
 refine z6 (zk (OpR.pure Z) (xn (w9 _ _))) Z ?_;refine aA Z Z ?_;refine aN Z ?_;obtain⟨t5,ht5,h0⟩:=bS h0;refine zA (fun S'=>∃ u6,t5=Ex.brk u6∧S'=⟨[(4,(dP (blk (env3 7)))),(3,(dN 0)),(2,(dP (blk p1)))],[.var (blk p1) [.val (.slice none 0 0),dN 0,dT false] 49,.var (blk (env3 7)) [.val (env3 3),dN a0.fEnd,dT false] 49,.row (env3 3) (List.map zj u6) 5 144],44⟩) (fun _ h=>h) ?_ ?_;rotate_left
 ·rintro _ ⟨u6,rfl,rfl⟩;show T X _ _ _;refine aS ?_;refine z6 (z7 1 Z Z Z Z) Z ?_;refine zv (OpR.store 0 Z Z Z Z Z Z Z Z) ?_;refine aA Z Z ?_;refine aN Z ?_;refine T.ret ?_;obtain rfl:=osi h0;exact zE (ks:=[]) (Gst.trans (Gst.only [2,3] Z) (Gst.trans (zC 2 Z Z (ReS.cons Re.refl (ReS.cons Re.refl ReS.nil)) (ReO.var (ReL.cons (Re.base .all) (ReL.cons Re.refl (ReL.cons Re.refl ReL.nil))) (ReO.var (ReL.cons (Re.base .all) (ReL.cons Re.refl (ReL.cons Re.refl ReL.nil))) (ReO.same ReO.nil)))) (Gst.pick [0] Z Z))) undef (cV 0 Z Z Z Z (cT Z ResL.nil)) Z Z Z Z
 refine T.block ?_;obtain⟨n8,n13⟩:=zy ht5;refine T.loop (fun n S'=>∃ S'',Gst S' S''∧∃ s7:Int × (List cell_Cell),S''=⟨[(22,(dN s7.1)),(21,(dN (a0.fFields.length:Int))),(20,.sl 4 (List.map xE a0.fFields)),(4,(dP (blk (env3 7)))),(3,(dN 0)),(2,(dP (blk p1)))],[.var (blk p1) [.val (.slice none 0 0),dN 0,dT false] 49,.var (blk (env3 7)) [.val (env3 3),dN a0.fEnd,dT false] 49,.row (env3 3) (List.map zj s7.2) 5 144],44⟩∧wo (uj.l1 a0) n s7=some t5) n8 ?_ ?_
 ·exact⟨_,gP [2,3,4,20,21,22] [0,2,1] Z Z Z,(0,x4),Z,n13⟩
 rintro n8 _ ⟨_,g,s7,rfl,i12⟩;refine T.ghost g ?_;obtain⟨m9,q10,rfl,q11,i12⟩:=zz i12;unfold uj.l1 at q11;refine aS ?_;refine aA Z Z ?_;refine aN Z ?_;refine T.seq ?_;rcases z9 q11 with ⟨c15,q11⟩|⟨c15,q11⟩;rotate_left
 ·refine ze Z (eF c15) ?_;refine T.exit ?_;obtain rfl:=osi q11;obtain rfl:_=_:=i12;exact⟨_,Gst.only [2,3,4] Z,_,Z,Z⟩
 refine zf Z (eT c15) ?_;refine aK Z ?_;refine T.seq ?_;refine T.block ?_;refine aS ?_;refine aA Z Z ?_;obtain⟨x16,hx16,q11⟩:=bS q11;refine z6 (zp xE hx16 Z Z Z Z Z) Z ?_;refine aA Z Z ?_;refine TL.op (OpR.alloc Z Z (fun _=>Z)) Z (fun p17=>?_);refine aA Z Z ?_;refine zv (OpR.store 3 Z Z Z Z Z Z Z Z) ?_;refine aN Z ?_;refine T.seq ?_;obtain⟨x19,hx19,q11⟩:=bS q11;obtain⟨x20,hx20,q11⟩:=bS q11;refine yA zV (fun env18=>[dP (blk (env3 7)),.val (env3 3),dN s7.1,.agg [dN x16.fRaw.fAt,dN x16.fRaw.fN,dN x16.fKind,.sl 2 (List.map zm x16.fParts)],.agg [.sl 2 (List.map zm x19.fText.fL),dN x19.fText.fN,dN x19.fRaw.fAt,dN x19.fRaw.fN,dT x19.fKept],.val (.pointer (some ⟨blk (env3 3),s7.1.toNat*5,none⟩)),.dead]) (fun D env18=>[.var (blk p1) [.val (.slice none 0 0),dN 0,dT false] 49,.var (blk (env3 7)) [.val (env3 3),dN a0.fEnd,dT false] 49,(bif D 6 then .row (env3 3) (List.map zj (s7.2.set s7.1.toNat x19)) 5 144 else .row (env3 3) (List.map zj s7.2) 5 144),.var (blk p17) [dN x16.fRaw.fAt,dN x16.fRaw.fN,dN x16.fKind,.sl 2 (List.map zm x16.fParts)] 270]) [0,1,0,0,8,31,63] [2,3,4,5,20,21,22] _ (by decide +kernel) (by decide +kernel) (fun _=>Z) (fun _=>Z) ?_ (fun _=>Z) (fun _=>Z) ?_
 ·refine aC ?_;refine oT (.val (env3 3)) (fun _ _=>z7 1 Z Z Z Z) ?_;refine aC ?_;refine oT (.agg [dN x16.fRaw.fAt,dN x16.fRaw.fN,dN x16.fKind,.sl 2 (List.map zm x16.fParts)]) (fun _ _=>z7 3 Z Z Z Z) ?_;refine oT (.agg [.sl 2 (List.map zm x19.fText.fL),dN x19.fText.fN,dN x19.fRaw.fAt,dN x19.fRaw.fN,dT x19.fKept]) (fun _ _=>zh fn194 (cell_Load_c hx19) Z) ?_;refine zi true ?_ (fun _ _ _ _ _ _ _=>Z) ?_
  ·intro D env18 hA;have e6:D 6=false:=hA.no 6 _ rfl rfl;exact zK [(6,false)] ⟨e6,trivial⟩ (Want.plain Z) (zO zj 2 hx20 Z Z Z Z Z Z Z) (fun x=>Z) (fun x=>Z)
  refine zi true ?_ (fun _ _ _ _ _ _ _=>Z) ?_
  ·intro D env18 hA;exact zK [(6,false)] ⟨hA.me,trivial⟩ (Want.plain Z) (yD (j:=s7.1) zj x19 2 hx20 Z Z Z Z Z Z Z Z Z) (fun x=>Z) (fun x=>Z)
  exact trivial
 intro env18;show T X _ _ _;refine aS ?_;refine aA Z Z ?_;refine z6 (z7 1 Z Z Z Z) Z ?_;refine aA Z Z ?_;obtain⟨x21,hx21,q11⟩:=bS q11;refine z6 (zO zj 2 hx21 Z Z Z Z Z Z Z) Z ?_;refine aA Z Z ?_;refine z6 (zH (j:=s7.1) zj 2 hx21 Z Z Z Z) Z ?_;obtain⟨x22,hx22,q11⟩:=bS q11;refine z6 (zh fn195 (piece_Text_Len_c hx22) Z) Z ?_;refine aA Z Z ?_;refine aN Z ?_;rcases z9 q11 with ⟨c23,q11⟩|⟨c23,q11⟩;rotate_left
 ·refine ze Z (eF c23) ?_;refine aK Z ?_;refine T.region ?_;iterate 2 refine aA rfl rfl ?_
  refine TL.nil ?_;obtain rfl:=osi q11;exact⟨m9,Nat.lt_succ_self _,_,gP [2,3,4,20,21,22] [0,1,2] Z Z Z,(w64 (s7.1+1),(s7.2.set s7.1.toNat x19)),Z,i12⟩
 refine zf Z (eT c23) ?_;refine aS ?_;refine z6 (OpR.build Z Z Z Z Z) Z ?_;refine zv (OpR.store 0 Z Z Z Z Z Z Z Z) ?_;refine aA Z Z ?_;refine aN Z ?_;refine T.ret ?_;obtain rfl:=osi q11;obtain rfl:_=_:=i12;obtain rfl:=osi h0;exact zE (ks:=[]) (Gst.trans (Gst.only [2,3] Z) (Gst.trans (Gst.denil (ReS.cons Re.refl (ReS.cons Re.refl ReS.nil)) (ReO.var (ReL.cons (Re.base .nil) (ReL.cons Re.refl (ReL.cons Re.refl ReL.nil))) (ReO.same (ReO.same (ReO.same ReO.nil))))) (Gst.pick [0] Z Z))) undef (cV 0 Z Z Z Z (cT Z ResL.nil)) Z Z Z Z
noncomputable def yi (a0:List row_Row):Option (List row_Row):=
 bnd (app 40 [] a0) fun x5=>
 some x5
theorem vD {a0:List row_Row} {res:(List row_Row)} (h0:yi a0=some res):zo X 191 [.sl 3 (List.map z8 a0)] [] (fun x=>.val (vn x 0)) (fun x=>[.row (vn x 0) (List.map z8 res) 3 49]):=by
 unfold yi at h0;refine zb (X:=X) Z Tryz.func191 Z Z Tryz.ntmps191 Z Z ?_;refine aS ?_;refine aA Z Z ?_;refine aN Z ?_;refine T.seq ?_;refine aS ?_;refine aA Z Z ?_;refine TL.isNil Z Z Z Z (fun b1 e2=>?_);refine aN Z ?_;rcases Bool.eq_false_or_eq_true b1 with c3|c3
 ·obtain rfl:=qK (e2 c3);rw[app_nil] at h0;refine zf Z (c3) ?_;refine aS ?_;refine aA Z Z ?_;refine aN Z ?_;refine T.ret ?_;obtain rfl:=osi h0;exact zE (ks:=[0]) (Gst.trans (Gst.only [2] Z) (ye (ow:=[]) 3 49 Z)) (.tuple #[(.slice none 0 0)]) (cT Z ResL.nil) Z Z Z Z
 refine ze Z (c3) ?_;refine aK Z ?_;refine aS ?_;refine TL.op (sc Z Z Z Z Z Z Z Z (fun _=>Z)) Z (fun v4=>?_);refine aA Z Z ?_;obtain⟨x5,hx5,h0⟩:=bS h0;refine TL.op (zM (m:=a0) z8 0 hx5 Z Z Z Z Z Z Z Z Z (fun _=>Z)) Z (fun v6=>?_);refine aA Z Z ?_;refine aN Z ?_;refine T.ret ?_;obtain rfl:=osi h0;exact rO [0] [2] Z (.tuple #[v6]) (cT Z ResL.nil) Z Z Z Z
noncomputable def xj.l1 (s6:(List row_Row) × Int × (List (List row_Row))):Option (Lp ((List row_Row) × Int × (List (List row_Row))) (List (List row_Row))):=
 if s6.2.1>0 then
 bnd (dvd (s6.1.length:Int) s6.2.1) fun x15=>
 bnd (cut s6.1 0 x15) fun x16=>
 bnd (yi x16) fun x17=>
 bnd (app 24 s6.2.2 [x17]) fun x19=>
 bnd (cut s6.1 x15 (s6.1.length:Int)) fun x21=>
 some (Lp.next (x21,w64 (s6.2.1-1),x19))
else
 some (Lp.done s6.2.2)
noncomputable def xj (a0:List row_Row):Option (List (List row_Row)):=
 bnd ((mkc 24 (w64 (quo (w64 ((w64 ((a0.length:Int)+6))-1)) 5)):Option (List (List row_Row)))) fun x1=>
 bnd (loop xj.l1 (a0,w64 (quo (w64 ((w64 ((a0.length:Int)+6))-1)) 5),x1):Option (List (List row_Row))) fun t3=>
 some t3
theorem pm {a0:List row_Row} {res:(List (List row_Row))} (h0:xj a0=some res):zo X 210 [.sl 3 (List.map z8 a0)] [] (fun x=>.sl 1 (List.map xQ res)) (fun x=>[]):=by
 unfold xj at h0;refine zb (X:=X) Z Tryz.func210 Z Z Tryz.ntmps210 Z Z ?_;refine aS ?_;refine aA Z Z ?_;refine aN Z ?_;refine aS ?_;refine aA Z Z ?_;refine z6 (zk (OpR.pure Z) (xn (w9 _ _))) Z ?_;iterate 4 refine aA rfl rfl ?_
 refine aN Z ?_;refine aS ?_;refine aA Z Z ?_;obtain⟨x1,hx1,h0⟩:=bS h0;refine TL.op (qq xQ hx1 Z Z Z Z Z Z Z (fun _=>Z)) Z (fun v2=>?_);refine aA Z Z ?_;refine aN Z ?_;refine T.seq ?_;obtain⟨t3,ht3,h0⟩:=bS h0;refine zA (fun S'=>∃ y4:Value,S'=⟨[(4,.val y4),(2,.val (.slice none 0 0))],[.row y4 (List.map xQ t3) 1 163],32⟩) (fun _ h=>h) ?_ ?_;rotate_left
 ·rintro _ ⟨y4,rfl⟩;show T X _ _ _;refine aS ?_;iterate 2 refine aA rfl rfl ?_
  refine aN Z ?_;refine T.ret ?_;obtain rfl:=osi h0;exact zE (ks:=[]) (Gst.trans (Gst.only [2] Z) (Gst.trans (zC 0 Z Z (ReS.cons (Re.base .all) ReS.nil) (ReO.same ReO.nil)) (Gst.pick [] Z Z))) undef (cT Z ResL.nil) Z Z Z Z
 refine T.block ?_;obtain⟨n7,n12⟩:=zy ht3;refine T.loop (fun n S'=>∃ S'',Gst S' S''∧∃ y5:Value,∃ s6:(List row_Row) × Int × (List (List row_Row)),S''=⟨[(4,.val y5),(3,(dN s6.2.1)),(2,.val (.slice none 0 0)),(0,.sl 3 (List.map z8 s6.1))],[.row y5 (List.map xQ s6.2.2) 1 163],32⟩∧wo xj.l1 n s6=some t3) n7 ?_ ?_
 ·exact⟨_,Gst.only [0,2,3,4] Z,v2,(a0,w64 (quo (w64 ((w64 ((a0.length:Int)+6))-1)) 5),x1),Z,n12⟩
 rintro n7 _ ⟨_,g,y5,s6,rfl,i11⟩;refine T.ghost g ?_;obtain⟨m8,q9,rfl,q10,i11⟩:=zz i11;unfold xj.l1 at q10;refine T.seq ?_;refine aS ?_;iterate 2 refine aA rfl rfl ?_
 refine aN Z ?_;rcases z9 q10 with ⟨c14,q10⟩|⟨c14,q10⟩;rotate_left
 ·refine ze Z (eF c14) ?_;refine T.exit ?_;obtain rfl:=osi q10;obtain rfl:_=_:=i11;exact⟨_,Gst.only [2,4] Z,y5,Z⟩
 refine zf Z (eT c14) ?_;refine aK Z ?_;refine T.seq ?_;refine T.block ?_;refine aS ?_;refine aA Z Z ?_;refine z6 (zk (OpR.pure Z) (xn (w9 _ _))) Z ?_;refine aA Z Z ?_;obtain⟨x15,hx15,q10⟩:=bS q10;refine z6 (OpR.dvdM hx15 Z Z Z) Z ?_;refine aA Z Z ?_;refine aN Z ?_;refine aS ?_;iterate 3 refine aA rfl rfl ?_
 obtain⟨x16,hx16,q10⟩:=bS q10;refine z6 (wR (sz:=3) z8 hx16 Z Z Z Z BdM.none (BdM.some Z) Z) Z ?_;obtain⟨x17,hx17,q10⟩:=bS q10;refine TL.op (OpR.call [] fn191 (vD hx17) Z Z Z (fun _=>Z)) Z (fun w18=>?_);refine TL.ghost (zC 1 Z Z (ReS.cons (Re.base .all) (ReS.refl _)) (ReO.same (ReO.same ReO.nil))) ?_;refine z6 (yN Z Z Z Z Z Z Z) Z ?_;obtain⟨x19,hx19,q10⟩:=bS q10;refine TL.op (zM (m:=[x17]) xQ 0 hx19 Z Z Z Z Z Z Z Z Z (fun _=>Z)) Z (fun v20=>?_);refine aA Z Z ?_;refine aN Z ?_;refine T.region ?_;iterate 2 refine aA rfl rfl ?_
 obtain⟨x21,hx21,q10⟩:=bS q10;refine z6 (wR (sz:=3) z8 hx21 Z Z Z Z (BdM.some Z) BdM.none Z) Z ?_;refine aA Z Z ?_;refine aN Z ?_;refine T.region ?_;iterate 3 refine aA rfl rfl ?_
 refine TL.nil ?_;obtain rfl:=osi q10;exact⟨m8,Nat.lt_succ_self _,_,gP [0,2,3,4] [0] Z Z Z,v20,(x21,w64 (s6.2.1-1),x19),Z,i11⟩
noncomputable def wS (a0:List row_Row):Option ((List NP) × (List row_Row) × Int):=
 some ([],a0,(a0.length:Int))
theorem sC {a0:List row_Row} {res:(List NP) × (List row_Row) × Int} (h0:wS a0=some res):zo X 211 [.sl 3 (List.map z8 a0)] [] (fun x=>.nod [.sl 1 (List.map eNP res.1),.sl 3 (List.map z8 res.2.1),dN res.2.2]) (fun x=>[]):=by
 unfold wS at h0;refine zb (X:=X) Z Tryz.func211 Z Z Tryz.ntmps211 Z Z ?_;refine aS ?_;refine aA Z Z ?_;refine aN Z ?_;refine aS ?_;iterate 2 refine aA rfl rfl ?_
 refine z6 (zk (OpR.pure Z) (xn (w9 _ _))) Z ?_;refine z6 (OpR.wk (d':=fun _=>.agg [.sl 1 (List.map eNP []),.sl 3 (List.map z8 a0),dN (a0.length:Int)]) (OpR.build rfl rfl rfl rfl rfl) (fun _=>Re.agg (ReL.cons (Re.base .nil) (ReL.cons Re.refl (ReL.cons Re.refl ReL.nil))) (fun _ _ h=>by cases h; exact⟨_,rfl⟩))) rfl ?_;refine TL.op (xG Z Z (fun _=>Z)) Z (fun p1=>?_);refine aA Z Z ?_;refine aN Z ?_;refine T.ghost (Gst.trans (Gst.only [2] Z) (pO 0 Z Z (ReS.cons (Re.base .all) ReS.nil) (ReO.same ReO.nil))) ?_;refine T.ret ?_;obtain rfl:=osi h0;exact rP [] [2] [] Z Z Z undef (cT Z ResL.nil) Z Z Z Z
noncomputable def yu.l1 (x1:(List (List row_Row))) (s5:Int × (List NP)):Option (Lp (Int × (List NP)) (List NP)):=
 if s5.1<(x1.length:Int) then
 bnd (idx x1 s5.1) fun x14=>
 bnd (wS x14) fun x15=>
 bnd (app 8 s5.2 [(yM (⟨x15.1,x15.2.1,x15.2.2⟩:tNd))]) fun x16=>
 some (Lp.next (w64 (s5.1+1),x16))
else
 some (Lp.done s5.2)
noncomputable def yu (a0:List row_Row):Option (List NP):=
 bnd (xj a0) fun x1=>
 bnd (loop (yu.l1 x1) (0,[]):Option (List NP)) fun t2=>
 some t2
theorem qA {a0:List row_Row} {res:(List NP)} (h0:yu a0=some res):zo X 169 [.sl 3 (List.map z8 a0)] [] (fun x=>.sl 1 (List.map eNP res)) (fun x=>[]):=by
 unfold yu at h0;refine zb (X:=X) Z Tryz.func169 Z Z Tryz.ntmps169 Z Z ?_;refine aS ?_;refine aA Z Z ?_;refine aN Z ?_;refine aS ?_;refine aA Z Z ?_;refine aN Z ?_;refine T.seq ?_;refine aS ?_;refine aA Z Z ?_;obtain⟨x1,hx1,h0⟩:=bS h0;refine z6 (zh fn210 (pm hx1) Z) Z ?_;refine z6 (zk (OpR.pure Z) (xn (w9 _ _))) Z ?_;refine aA Z Z ?_;refine aN Z ?_;obtain⟨t2,ht2,h0⟩:=bS h0;refine zA (fun S'=>∃ y3:Value,S'=⟨[(3,.val y3),(2,.val (.slice none 0 0))],[.row y3 (List.map eNP t2) 1 23],20⟩) (fun _ h=>h) ?_ ?_;rotate_left
 ·rintro _ ⟨y3,rfl⟩;show T X _ _ _;refine aS ?_;iterate 2 refine aA rfl rfl ?_
  refine aN Z ?_;refine T.ret ?_;obtain rfl:=osi h0;exact zE (ks:=[]) (Gst.trans (Gst.only [2] Z) (Gst.trans (zC 0 Z Z (ReS.cons (Re.base .all) ReS.nil) (ReO.same ReO.nil)) (Gst.pick [] Z Z))) undef (cT Z ResL.nil) Z Z Z Z
 refine T.block ?_;obtain⟨n6,n11⟩:=zy ht2;refine T.loop (fun n S'=>∃ S'',Gst S' S''∧∃ y4:Value,∃ s5:Int × (List NP),S''=⟨[(9,(dN s5.1)),(8,(dN (x1.length:Int))),(7,.sl 1 (List.map xQ x1)),(3,.val y4),(2,.val (.slice none 0 0))],[.row y4 (List.map eNP s5.2) 1 23],20⟩∧wo (yu.l1 x1) n s5=some t2) n6 ?_ ?_
 ·exact⟨_,Gst.trans (Gst.only [2,3,7,8,9] Z) (ye (ow:=[]) 1 23 Z),(.slice none 0 0),(0,[]),Z,n11⟩
 rintro n6 _ ⟨_,g,y4,s5,rfl,i10⟩;refine T.ghost g ?_;obtain⟨m7,q8,rfl,q9,i10⟩:=zz i10;unfold yu.l1 at q9;refine aS ?_;refine aA Z Z ?_;refine aN Z ?_;refine T.seq ?_;rcases z9 q9 with ⟨c13,q9⟩|⟨c13,q9⟩;rotate_left
 ·refine ze Z (eF c13) ?_;refine T.exit ?_;obtain rfl:=osi q9;obtain rfl:_=_:=i10;exact⟨_,Gst.only [2,3] Z,y4,Z⟩
 refine zf Z (eT c13) ?_;refine aK Z ?_;refine T.seq ?_;refine T.block ?_;refine aS ?_;obtain⟨x14,hx14,q9⟩:=bS q9;refine z6 (zp xQ hx14 Z Z Z Z Z) Z ?_;iterate 2 refine aA rfl rfl ?_
 refine aN Z ?_;refine T.region ?_;iterate 2 refine aA rfl rfl ?_
 obtain⟨x15,hx15,q9⟩:=bS q9;refine z6 (zh fn211 (sC hx15) Z) Z ?_;refine z6 (yN Z Z Z Z Z Z Z) Z ?_;obtain⟨x16,hx16,q9⟩:=bS q9;refine TL.op (zM (m:=[(yM (⟨x15.1,x15.2.1,x15.2.2⟩:tNd))]) eNP 0 hx16 Z Z Z Z Z Z Z Z Z (fun _=>Z)) Z (fun v17=>?_);refine aA Z Z ?_;refine aN Z ?_;refine T.region ?_;iterate 2 refine aA rfl rfl ?_
 refine TL.nil ?_;obtain rfl:=osi q9;exact⟨m7,Nat.lt_succ_self _,_,Gst.only [2,3,7,8,9] Z,v17,(w64 (s5.1+1),x16),Z,i10⟩
noncomputable def zW (a0:List NP):Option (List NP):=
 bnd (app 8 [] a0) fun x5=>
 some x5
theorem vc {a0:List NP} {res:(List NP)} (h0:zW a0=some res):zo X 262 [.sl 1 (List.map eNP a0)] [] (fun x=>.val (vn x 0)) (fun x=>[.row (vn x 0) (List.map eNP res) 1 23]):=by
 unfold zW at h0;refine zb (X:=X) Z Tryz.func262 Z Z Tryz.ntmps262 Z Z ?_;refine aS ?_;refine aA Z Z ?_;refine aN Z ?_;refine T.seq ?_;refine aS ?_;refine aA Z Z ?_;refine TL.isNil Z Z Z Z (fun b1 e2=>?_);refine aN Z ?_;rcases Bool.eq_false_or_eq_true b1 with c3|c3
 ·obtain rfl:=qK (e2 c3);rw[app_nil] at h0;refine zf Z (c3) ?_;refine aS ?_;refine aA Z Z ?_;refine aN Z ?_;refine T.ret ?_;obtain rfl:=osi h0;exact zE (ks:=[0]) (Gst.trans (Gst.only [2] Z) (ye (ow:=[]) 1 23 Z)) (.tuple #[(.slice none 0 0)]) (cT Z ResL.nil) Z Z Z Z
 refine ze Z (c3) ?_;refine aK Z ?_;refine aS ?_;refine TL.op (sc Z Z Z Z Z Z Z Z (fun _=>Z)) Z (fun v4=>?_);refine aA Z Z ?_;obtain⟨x5,hx5,h0⟩:=bS h0;refine TL.op (zM (m:=a0) eNP 0 hx5 Z Z Z Z Z Z Z Z Z (fun _=>Z)) Z (fun v6=>?_);refine aA Z Z ?_;refine aN Z ?_;refine T.ret ?_;obtain rfl:=osi h0;exact rO [0] [2] Z (.tuple #[v6]) (cT Z ResL.nil) Z Z Z Z
noncomputable def yg.l1 (s6:(List NP) × Int × (List (List NP))):Option (Lp ((List NP) × Int × (List (List NP))) (List (List NP))):=
 if s6.2.1>0 then
 bnd (dvd (s6.1.length:Int) s6.2.1) fun x15=>
 bnd (cut s6.1 0 x15) fun x16=>
 bnd (zW x16) fun x17=>
 bnd (app 24 s6.2.2 [x17]) fun x19=>
 bnd (cut s6.1 x15 (s6.1.length:Int)) fun x21=>
 some (Lp.next (x21,w64 (s6.2.1-1),x19))
else
 some (Lp.done s6.2.2)
noncomputable def yg (a0:List NP):Option (List (List NP)):=
 bnd ((mkc 24 (w64 (quo (w64 ((w64 ((a0.length:Int)+6))-1)) 5)):Option (List (List NP)))) fun x1=>
 bnd (loop yg.l1 (a0,w64 (quo (w64 ((w64 ((a0.length:Int)+6))-1)) 5),x1):Option (List (List NP))) fun t3=>
 some t3
theorem tP {a0:List NP} {res:(List (List NP))} (h0:yg a0=some res):zo X 235 [.sl 1 (List.map eNP a0)] [] (fun x=>.sl 1 (List.map uC res)) (fun x=>[]):=by
 unfold yg at h0;refine zb (X:=X) Z Tryz.func235 Z Z Tryz.ntmps235 Z Z ?_;refine aS ?_;refine aA Z Z ?_;refine aN Z ?_;refine aS ?_;refine aA Z Z ?_;refine z6 (zk (OpR.pure Z) (xn (w9 _ _))) Z ?_;iterate 4 refine aA rfl rfl ?_
 refine aN Z ?_;refine aS ?_;refine aA Z Z ?_;obtain⟨x1,hx1,h0⟩:=bS h0;refine TL.op (qq uC hx1 Z Z Z Z Z Z Z (fun _=>Z)) Z (fun v2=>?_);refine aA Z Z ?_;refine aN Z ?_;refine T.seq ?_;obtain⟨t3,ht3,h0⟩:=bS h0;refine zA (fun S'=>∃ y4:Value,S'=⟨[(4,.val y4),(2,.val (.slice none 0 0))],[.row y4 (List.map uC t3) 1 221],32⟩) (fun _ h=>h) ?_ ?_;rotate_left
 ·rintro _ ⟨y4,rfl⟩;show T X _ _ _;refine aS ?_;iterate 2 refine aA rfl rfl ?_
  refine aN Z ?_;refine T.ret ?_;obtain rfl:=osi h0;exact zE (ks:=[]) (Gst.trans (Gst.only [2] Z) (Gst.trans (zC 0 Z Z (ReS.cons (Re.base .all) ReS.nil) (ReO.same ReO.nil)) (Gst.pick [] Z Z))) undef (cT Z ResL.nil) Z Z Z Z
 refine T.block ?_;obtain⟨n7,n12⟩:=zy ht3;refine T.loop (fun n S'=>∃ S'',Gst S' S''∧∃ y5:Value,∃ s6:(List NP) × Int × (List (List NP)),S''=⟨[(4,.val y5),(3,(dN s6.2.1)),(2,.val (.slice none 0 0)),(0,.sl 1 (List.map eNP s6.1))],[.row y5 (List.map uC s6.2.2) 1 221],32⟩∧wo yg.l1 n s6=some t3) n7 ?_ ?_
 ·exact⟨_,Gst.only [0,2,3,4] Z,v2,(a0,w64 (quo (w64 ((w64 ((a0.length:Int)+6))-1)) 5),x1),Z,n12⟩
 rintro n7 _ ⟨_,g,y5,s6,rfl,i11⟩;refine T.ghost g ?_;obtain⟨m8,q9,rfl,q10,i11⟩:=zz i11;unfold yg.l1 at q10;refine T.seq ?_;refine aS ?_;iterate 2 refine aA rfl rfl ?_
 refine aN Z ?_;rcases z9 q10 with ⟨c14,q10⟩|⟨c14,q10⟩;rotate_left
 ·refine ze Z (eF c14) ?_;refine T.exit ?_;obtain rfl:=osi q10;obtain rfl:_=_:=i11;exact⟨_,Gst.only [2,4] Z,y5,Z⟩
 refine zf Z (eT c14) ?_;refine aK Z ?_;refine T.seq ?_;refine T.block ?_;refine aS ?_;refine aA Z Z ?_;refine z6 (zk (OpR.pure Z) (xn (w9 _ _))) Z ?_;refine aA Z Z ?_;obtain⟨x15,hx15,q10⟩:=bS q10;refine z6 (OpR.dvdM hx15 Z Z Z) Z ?_;refine aA Z Z ?_;refine aN Z ?_;refine aS ?_;iterate 3 refine aA rfl rfl ?_
 obtain⟨x16,hx16,q10⟩:=bS q10;refine z6 (wR (sz:=1) eNP hx16 Z Z Z Z BdM.none (BdM.some Z) Z) Z ?_;obtain⟨x17,hx17,q10⟩:=bS q10;refine TL.op (OpR.call [] fn262 (vc hx17) Z Z Z (fun _=>Z)) Z (fun w18=>?_);refine TL.ghost (zC 1 Z Z (ReS.cons (Re.base .all) (ReS.refl _)) (ReO.same (ReO.same ReO.nil))) ?_;refine z6 (yN Z Z Z Z Z Z Z) Z ?_;obtain⟨x19,hx19,q10⟩:=bS q10;refine TL.op (zM (m:=[x17]) uC 0 hx19 Z Z Z Z Z Z Z Z Z (fun _=>Z)) Z (fun v20=>?_);refine aA Z Z ?_;refine aN Z ?_;refine T.region ?_;iterate 2 refine aA rfl rfl ?_
 obtain⟨x21,hx21,q10⟩:=bS q10;refine z6 (wR (sz:=1) eNP hx21 Z Z Z Z (BdM.some Z) BdM.none Z) Z ?_;refine aA Z Z ?_;refine aN Z ?_;refine T.region ?_;iterate 3 refine aA rfl rfl ?_
 refine TL.nil ?_;obtain rfl:=osi q10;exact⟨m8,Nat.lt_succ_self _,_,gP [0,2,3,4] [0] Z Z Z,v20,(x21,w64 (s6.2.1-1),x19),Z,i11⟩
noncomputable def yq.l1 (a0:List NP) (s3:Int × Int):Option (Lp (Int × Int) Int):=
 if s3.1<(a0.length:Int) then
 bnd (idx a0 s3.1) fun x12=>
 bnd (vi x12) fun x13=>
 some (Lp.next (w64 (s3.1+1),w64 (s3.2+x13.fN)))
else
 some (Lp.done s3.2)
noncomputable def yq (a0:List NP):Option ((List NP) × (List row_Row) × Int):=
 bnd (loop (yq.l1 a0) (0,0):Option Int) fun t2=>
 some (a0,[],t2)
theorem tR {a0:List NP} {res:(List NP) × (List row_Row) × Int} (h0:yq a0=some res):zo X 236 [.sl 1 (List.map eNP a0)] [] (fun x=>.nod [.sl 1 (List.map eNP res.1),.sl 3 (List.map z8 res.2.1),dN res.2.2]) (fun x=>[]):=by
 unfold yq at h0;refine zb (X:=X) Z Tryz.func236 Z Z Tryz.ntmps236 Z Z ?_;refine aS ?_;refine aA Z Z ?_;refine aN Z ?_;refine aS ?_;refine aA Z Z ?_;refine z6 (OpR.wk (d':=fun _=>.agg [.sl 1 (List.map eNP a0),.sl 3 (List.map z8 []),dN 0]) (OpR.build rfl rfl rfl rfl rfl) (fun _=>Re.agg (ReL.cons Re.refl (ReL.cons (Re.base .nil) (ReL.cons Re.refl ReL.nil))) (fun _ _ h=>by cases h; exact⟨_,rfl⟩))) rfl ?_;refine TL.op (xG Z Z (fun _=>Z)) Z (fun p1=>?_);refine aA Z Z ?_;refine aN Z ?_;refine T.seq ?_;refine aS ?_;refine aA Z Z ?_;refine z6 (zk (OpR.pure Z) (xn (w9 _ _))) Z ?_;refine aA Z Z ?_;refine aN Z ?_;obtain⟨t2,ht2,h0⟩:=bS h0;refine zA (fun S'=>S'=⟨[(3,(dP (blk p1))),(2,dQ)],[.var (blk p1) [.sl 1 (List.map eNP a0),.sl 3 (List.map z8 []),dN t2] 223],28⟩) (fun _ h=>h) ?_ ?_;rotate_left
 ·rintro _ rfl;show T X _ _ _;refine aS ?_;iterate 2 refine aA rfl rfl ?_
  refine aN Z ?_;refine T.ghost (Gst.trans (Gst.only [2] Z) (pO 0 Z Z (ReS.cons (Re.base .all) ReS.nil) (ReO.same ReO.nil))) ?_;refine T.ret ?_;obtain rfl:=osi h0;exact rP [] [2] [] Z Z Z undef (cT Z ResL.nil) Z Z Z Z
 refine T.block ?_;obtain⟨n4,n9⟩:=zy ht2;refine T.loop (fun n S'=>∃ S'',Gst S' S''∧∃ s3:Int × Int,S''=⟨[(11,(dN s3.1)),(10,(dN (a0.length:Int))),(9,.sl 1 (List.map eNP a0)),(3,(dP (blk p1))),(2,dQ)],[.var (blk p1) [.sl 1 (List.map eNP a0),.sl 3 (List.map z8 []),dN s3.2] 223],28⟩∧wo (yq.l1 a0) n s3=some t2) n4 ?_ ?_
 ·exact⟨_,Gst.only [2,3,9,10,11] Z,(0,0),Z,n9⟩
 rintro n4 _ ⟨_,g,s3,rfl,i8⟩;refine T.ghost g ?_;obtain⟨m5,q6,rfl,q7,i8⟩:=zz i8;unfold yq.l1 at q7;refine aS ?_;refine aA Z Z ?_;refine aN Z ?_;refine T.seq ?_;rcases z9 q7 with ⟨c11,q7⟩|⟨c11,q7⟩;rotate_left
 ·refine ze Z (eF c11) ?_;refine T.exit ?_;obtain rfl:=osi q7;obtain rfl:_=_:=i8;exact⟨_,Gst.only [2,3] Z,Z⟩
 refine zf Z (eT c11) ?_;refine aK Z ?_;refine T.seq ?_;refine T.block ?_;refine aS ?_;obtain⟨x12,hx12,q7⟩:=bS q7;obtain⟨x13,hx13,q7⟩:=bS q7;rw[xf hx13] at hx12;refine z6 (zp eNP hx12 Z Z Z Z Z) Z ?_;iterate 2 refine aA rfl rfl ?_
 refine aN Z ?_;refine yA zV (fun env14=>[dP (blk p1),dP (blk p1),.val (.pointer (some ⟨(blk p1),2,none⟩)),dN s3.2,.nod [.sl 1 (List.map eNP x13.fKids),.sl 3 (List.map z8 x13.fItems),dN x13.fN],.nod [.sl 1 (List.map eNP x13.fKids),.sl 3 (List.map z8 x13.fItems),dN x13.fN],.nod [dN x13.fN],dN x13.fN,dN (w64 (s3.2+x13.fN)),dP (blk p1),.val (.pointer (some ⟨(blk p1),2,none⟩)),.dead]) (fun D env14=>[(bif D 11 then .var (blk p1) [.sl 1 (List.map eNP a0),.sl 3 (List.map z8 []),dN (w64 (s3.2+x13.fN))] 223 else .var (blk p1) [.sl 1 (List.map eNP a0),.sl 3 (List.map z8 []),dN s3.2] 223)]) [0,1,3,7,0,16,48,112,255,511,1023,2047] [2,3,9,10,11] _ (by decide +kernel) (by decide +kernel) (fun _=>Z) (fun _=>Z) ?_ (fun _=>Z) (fun _=>Z) ?_;rotate_left
 ·intro env14;show T X _ _ _;refine T.region ?_;iterate 2 refine aA rfl rfl ?_
  refine TL.nil ?_;obtain rfl:=osi q7;exact⟨m5,Nat.lt_succ_self _,_,Gst.only [2,3,9,10,11] Z,(w64 (s3.1+1),w64 (s3.2+x13.fN)),Z,i8⟩
 iterate 3 refine aC ?_
 refine zi true ?_ (fun _ _ _ _ _ _ _=>Z) ?_
 ·intro D env14 hA;have e11:D 11=false:=hA.no 11 _ rfl rfl;exact zK [(11,false)] ⟨e11,trivial⟩ (Want.plain Z) (z7 0 Z Z Z Z) (fun x=>Z) (fun x=>Z)
 iterate 7 refine aC ?_
 refine zi true ?_ (fun _ _ _ _ _ _ _=>Z) ?_
 ·intro D env14 hA;exact zK [(11,false)] ⟨hA.me,trivial⟩ (Want.plain Z) (OpR.store 0 Z Z Z Z Z Z Z Z) (fun x=>Z) (fun x=>Z)
 exact trivial
noncomputable def yz.l1 (x1:(List (List NP))) (s5:Int × (List NP)):Option (Lp (Int × (List NP)) (List NP)):=
 if s5.1<(x1.length:Int) then
 bnd (idx x1 s5.1) fun x14=>
 bnd (yq x14) fun x15=>
 bnd (app 8 s5.2 [(yM (⟨x15.1,x15.2.1,x15.2.2⟩:tNd))]) fun x16=>
 some (Lp.next (w64 (s5.1+1),x16))
else
 some (Lp.done s5.2)
noncomputable def yz (a0:List NP):Option (List NP):=
 bnd (yg a0) fun x1=>
 bnd (loop (yz.l1 x1) (0,[]):Option (List NP)) fun t2=>
 some t2
theorem qB {a0:List NP} {res:(List NP)} (h0:yz a0=some res):zo X 209 [.sl 1 (List.map eNP a0)] [] (fun x=>.sl 1 (List.map eNP res)) (fun x=>[]):=by
 unfold yz at h0;refine zb (X:=X) Z Tryz.func209 Z Z Tryz.ntmps209 Z Z ?_;refine aS ?_;refine aA Z Z ?_;refine aN Z ?_;refine aS ?_;refine aA Z Z ?_;refine aN Z ?_;refine T.seq ?_;refine aS ?_;refine aA Z Z ?_;obtain⟨x1,hx1,h0⟩:=bS h0;refine z6 (zh fn235 (tP hx1) Z) Z ?_;refine z6 (zk (OpR.pure Z) (xn (w9 _ _))) Z ?_;refine aA Z Z ?_;refine aN Z ?_;obtain⟨t2,ht2,h0⟩:=bS h0;refine zA (fun S'=>∃ y3:Value,S'=⟨[(3,.val y3),(2,.val (.slice none 0 0))],[.row y3 (List.map eNP t2) 1 23],20⟩) (fun _ h=>h) ?_ ?_;rotate_left
 ·rintro _ ⟨y3,rfl⟩;show T X _ _ _;refine aS ?_;iterate 2 refine aA rfl rfl ?_
  refine aN Z ?_;refine T.ret ?_;obtain rfl:=osi h0;exact zE (ks:=[]) (Gst.trans (Gst.only [2] Z) (Gst.trans (zC 0 Z Z (ReS.cons (Re.base .all) ReS.nil) (ReO.same ReO.nil)) (Gst.pick [] Z Z))) undef (cT Z ResL.nil) Z Z Z Z
 refine T.block ?_;obtain⟨n6,n11⟩:=zy ht2;refine T.loop (fun n S'=>∃ S'',Gst S' S''∧∃ y4:Value,∃ s5:Int × (List NP),S''=⟨[(9,(dN s5.1)),(8,(dN (x1.length:Int))),(7,.sl 1 (List.map uC x1)),(3,.val y4),(2,.val (.slice none 0 0))],[.row y4 (List.map eNP s5.2) 1 23],20⟩∧wo (yz.l1 x1) n s5=some t2) n6 ?_ ?_
 ·exact⟨_,Gst.trans (Gst.only [2,3,7,8,9] Z) (ye (ow:=[]) 1 23 Z),(.slice none 0 0),(0,[]),Z,n11⟩
 rintro n6 _ ⟨_,g,y4,s5,rfl,i10⟩;refine T.ghost g ?_;obtain⟨m7,q8,rfl,q9,i10⟩:=zz i10;unfold yz.l1 at q9;refine aS ?_;refine aA Z Z ?_;refine aN Z ?_;refine T.seq ?_;rcases z9 q9 with ⟨c13,q9⟩|⟨c13,q9⟩;rotate_left
 ·refine ze Z (eF c13) ?_;refine T.exit ?_;obtain rfl:=osi q9;obtain rfl:_=_:=i10;exact⟨_,Gst.only [2,3] Z,y4,Z⟩
 refine zf Z (eT c13) ?_;refine aK Z ?_;refine T.seq ?_;refine T.block ?_;refine aS ?_;obtain⟨x14,hx14,q9⟩:=bS q9;refine z6 (zp uC hx14 Z Z Z Z Z) Z ?_;iterate 2 refine aA rfl rfl ?_
 refine aN Z ?_;refine T.region ?_;iterate 2 refine aA rfl rfl ?_
 obtain⟨x15,hx15,q9⟩:=bS q9;refine z6 (zh fn236 (tR hx15) Z) Z ?_;refine z6 (yN Z Z Z Z Z Z Z) Z ?_;obtain⟨x16,hx16,q9⟩:=bS q9;refine TL.op (zM (m:=[(yM (⟨x15.1,x15.2.1,x15.2.2⟩:tNd))]) eNP 0 hx16 Z Z Z Z Z Z Z Z Z (fun _=>Z)) Z (fun v17=>?_);refine aA Z Z ?_;refine aN Z ?_;refine T.region ?_;iterate 2 refine aA rfl rfl ?_
 refine TL.nil ?_;obtain rfl:=osi q9;exact⟨m7,Nat.lt_succ_self _,_,Gst.only [2,3,7,8,9] Z,v17,(w64 (s5.1+1),x16),Z,i10⟩
noncomputable def zS.l1 (s3:(List NP)):Option (Lp (List NP) (List NP)):=
 if (s3.length:Int)>1 then
 bnd (yz s3) fun x12=>
 some (Lp.next x12)
else
 some (Lp.done s3)
noncomputable def zS.l2 (s21:(List NP) × (List row_Row) × Int):Option (Lp ((List NP) × (List row_Row) × Int) ((List NP) × (List row_Row) × Int)):=
 if (s21.1.length:Int)=1 then
 bnd (idx s21.1 0) fun x30=>
 bnd (vi x30) fun x31=>
 some (Lp.next (x31.fKids,x31.fItems,x31.fN))
else
 some (Lp.done (s21.1,s21.2.1,s21.2.2))
noncomputable def zS (a0:List NP):Option tTr:=
 bnd (loop zS.l1 a0:Option (List NP)) fun t2=>
 bnd (if (t2.length:Int)=0 then
 some true
else
 bnd (idx t2 0) fun x15=>
 bnd (vi x15) fun x16=>
 some (x16.fN==0):Option Bool) fun t13=>
 if t13=true then
 some (⟨none⟩:tTr)
else
 bnd (idx t2 0) fun x18=>
 bnd (vi x18) fun x19=>
 bnd (loop zS.l2 (x19.fKids,x19.fItems,x19.fN):Option ((List NP) × (List row_Row) × Int)) fun t20=>
 some (⟨(some (yM (⟨t20.1,t20.2.1,t20.2.2⟩:tNd)))⟩:tTr)
theorem qO {a0:List NP} {res:tTr} (h0:zS a0=some res):zo X 168 [.sl 1 (List.map eNP a0)] [] (fun x=>.agg [(eOP res.fRoot)]) (fun x=>[]):=by
 unfold zS at h0;refine zb (X:=X) Z Tryz.func168 Z Z Tryz.ntmps168 Z Z ?_;refine aS ?_;refine TL.op (OpR.alloc Z Z (fun _=>Z)) Z (fun p1=>?_);refine aN Z ?_;refine T.seq ?_;obtain⟨t2,ht2,h0⟩:=bS h0;refine zA (fun S'=>S'=⟨[(2,(dP (blk p1))),(0,.sl 1 (List.map eNP t2))],[.var (blk p1) [(eOP none)] 25],39⟩) (fun _ h=>h) ?_ ?_
 ·refine T.block ?_;obtain⟨n4,n9⟩:=zy ht2;refine T.loop (fun n S'=>∃ S'',Gst S' S''∧∃ s3:(List NP),S''=⟨[(2,(dP (blk p1))),(0,.sl 1 (List.map eNP s3))],[.var (blk p1) [(eOP none)] 25],39⟩∧wo zS.l1 n s3=some t2) n4 ?_ ?_
  ·exact⟨_,Gst.only [0,2] Z,a0,Z,n9⟩
  rintro n4 _ ⟨_,g,s3,rfl,i8⟩;refine T.ghost g ?_;obtain⟨m5,q6,rfl,q7,i8⟩:=zz i8;unfold zS.l1 at q7;refine T.seq ?_;refine aS ?_;refine aA Z Z ?_;refine z6 (zk (OpR.pure Z) (xn (w9 _ _))) Z ?_;refine aA Z Z ?_;refine aN Z ?_;rcases z9 q7 with ⟨c11,q7⟩|⟨c11,q7⟩;rotate_left
  ·refine ze Z (eF c11) ?_;refine T.exit ?_;obtain rfl:=osi q7;obtain rfl:_=_:=i8;exact⟨_,Gst.only [0,2] Z,Z⟩
  refine zf Z (eT c11) ?_;refine aK Z ?_;refine T.block ?_;refine T.region ?_;refine aA Z Z ?_;obtain⟨x12,hx12,q7⟩:=bS q7;refine z6 (zh fn209 (qB hx12) Z) Z ?_;refine aA Z Z ?_;refine TL.nil ?_;obtain rfl:=osi q7;exact⟨m5,Nat.lt_succ_self _,_,Gst.only [0,2] Z,x12,Z,i8⟩
 rintro _ rfl;show T X _ _ _;refine T.seq ?_;refine T.seq ?_;obtain⟨t13,ht13,h0⟩:=bS h0;refine zA (fun S'=>S'=⟨[(20,(dT t13)),(2,(dP (blk p1))),(0,.sl 1 (List.map eNP t2))],[.var (blk p1) [(eOP none)] 25],39⟩) (fun _ h=>h) ?_ ?_
 ·refine T.region ?_;refine aA Z Z ?_;refine z6 (zk (OpR.pure Z) (xn (w9 _ _))) Z ?_;iterate 2 refine aA rfl rfl ?_
  rcases z9 ht13 with ⟨c14,ht13⟩|⟨c14,ht13⟩
  ·refine TL.off Z Z Z Z (beq_iff_eq.2 c14) Z Z ?_;refine TL.off Z Z Z Z (beq_iff_eq.2 c14) Z Z ?_;refine TL.off Z Z Z Z (beq_iff_eq.2 c14) Z Z ?_;refine TL.off Z Z Z Z (beq_iff_eq.2 c14) Z Z ?_;refine TL.off Z Z Z Z (beq_iff_eq.2 c14) Z Z ?_;refine TL.off Z Z Z Z (beq_iff_eq.2 c14) Z Z ?_;refine TL.off Z Z Z Z (beq_iff_eq.2 c14) Z Z ?_;refine z6 (zt Z (beq_iff_eq.2 c14) Z) Z ?_;refine TL.nil ?_;obtain rfl:=osi ht13;exact⟨_,Gst.only [0,2,20] Z,Z⟩
  refine TL.on Z Z Z Z (beq_eq_false_iff_ne.2 c14) ?_;refine aA Z Z ?_;refine TL.on Z Z Z Z (beq_eq_false_iff_ne.2 c14) ?_;obtain⟨x15,hx15,ht13⟩:=bS ht13;obtain⟨x16,hx16,ht13⟩:=bS ht13;rw[xf hx16] at hx15;refine z6 (zp eNP hx15 Z Z Z Z Z) Z ?_;refine TL.on Z Z Z Z (beq_eq_false_iff_ne.2 c14) ?_;refine aA Z Z ?_;refine TL.on Z Z Z Z (beq_eq_false_iff_ne.2 c14) ?_;refine aA Z Z ?_;refine TL.on Z Z Z Z (beq_eq_false_iff_ne.2 c14) ?_;refine aA Z Z ?_;refine TL.on Z Z Z Z (beq_eq_false_iff_ne.2 c14) ?_;refine aA Z Z ?_;refine TL.on Z Z Z Z (beq_eq_false_iff_ne.2 c14) ?_;refine aA Z Z ?_;refine z6 (zx Z (beq_eq_false_iff_ne.2 c14) Z) Z ?_;refine TL.nil ?_;obtain rfl:=osi ht13;exact⟨_,Gst.only [0,2,20] Z,Z⟩
 rintro _ rfl;show T X _ _ _;rcases z9 h0 with ⟨c17,h0⟩|⟨c17,h0⟩
 ·refine zf Z (c17) ?_;refine aS ?_;refine z6 (OpR.build Z Z Z Z Z) Z ?_;refine zv (OpR.store 0 Z Z Z Z Z Z Z Z) ?_;refine aN Z ?_;refine T.ret ?_;obtain rfl:=osi h0;exact rO [] [2] Z undef (cV 0 Z Z Z Z ResL.nil) Z Z Z Z
 refine ze Z (eN c17) ?_;refine aK Z ?_;refine aS ?_;refine aA Z Z ?_;obtain⟨x18,hx18,h0⟩:=bS h0;obtain⟨x19,hx19,h0⟩:=bS h0;rw[xf hx19] at hx18;refine z6 (zp eNP hx18 Z Z Z Z Z) Z ?_;iterate 2 refine aA rfl rfl ?_
 refine aN Z ?_;refine T.seq ?_;obtain⟨t20,ht20,h0⟩:=bS h0;refine zA (fun S'=>S'=⟨[(3,.nod [.sl 1 (List.map eNP t20.1),.sl 3 (List.map z8 t20.2.1),dN t20.2.2]),(2,(dP (blk p1)))],[.var (blk p1) [(eOP none)] 25],39⟩) (fun _ h=>h) ?_ ?_;rotate_left
 ·rintro _ rfl;show T X _ _ _;refine aS ?_;refine aA Z Z ?_;refine z6 (OpR.build Z Z Z Z Z) Z ?_;refine zv (OpR.store 0 Z Z Z Z Z Z Z Z) ?_;refine aN Z ?_;refine T.ret ?_;obtain rfl:=osi h0;exact rO [] [2] Z undef (cV 0 Z Z Z Z ResL.nil) Z Z Z Z
 refine T.block ?_;obtain⟨n22,n27⟩:=zy ht20;refine T.loop (fun n S'=>∃ S'',Gst S' S''∧∃ s21:(List NP) × (List row_Row) × Int,S''=⟨[(3,.nod [.sl 1 (List.map eNP s21.1),.sl 3 (List.map z8 s21.2.1),dN s21.2.2]),(2,(dP (blk p1)))],[.var (blk p1) [(eOP none)] 25],39⟩∧wo zS.l2 n s21=some t20) n22 ?_ ?_
 ·exact⟨_,Gst.only [2,3] Z,(x19.fKids,x19.fItems,x19.fN),Z,n27⟩
 rintro n22 _ ⟨_,g,s21,rfl,i26⟩;refine T.ghost g ?_;obtain⟨m23,q24,rfl,q25,i26⟩:=zz i26;unfold zS.l2 at q25;refine T.seq ?_;refine aS ?_;iterate 4 refine aA rfl rfl ?_
 refine z6 (zk (OpR.pure Z) (xn (w9 _ _))) Z ?_;refine aA Z Z ?_;refine aN Z ?_;rcases z9 q25 with ⟨c29,q25⟩|⟨c29,q25⟩;rotate_left
 ·refine ze Z (beq_eq_false_iff_ne.2 c29) ?_;refine T.exit ?_;obtain rfl:=osi q25;obtain rfl:_=_:=i26;exact⟨_,Gst.only [2,3] Z,Z⟩
 refine zf Z (beq_iff_eq.2 c29) ?_;refine aK Z ?_;refine T.block ?_;refine T.region ?_;iterate 4 refine aA rfl rfl ?_
 obtain⟨x30,hx30,q25⟩:=bS q25;obtain⟨x31,hx31,q25⟩:=bS q25;rw[xf hx31] at hx30;refine z6 (zp eNP hx30 Z Z Z Z Z) Z ?_;iterate 2 refine aA rfl rfl ?_
 refine TL.nil ?_;obtain rfl:=osi q25;exact⟨m23,Nat.lt_succ_self _,_,Gst.only [2,3] Z,(x31.fKids,x31.fItems,x31.fN),Z,i26⟩
noncomputable def wY (a0:List row_Row):Option tTr:=
 bnd (yu a0) fun x2=>
 bnd (zS x2) fun x3=>
 some x3
theorem tq {a0:List row_Row} {res:tTr} (h0:wY a0=some res):zo X 101 [.sl 3 (List.map z8 a0)] [] (fun x=>.agg [(eOP res.fRoot)]) (fun x=>[]):=by
 unfold wY at h0;refine zb (X:=X) Z Tryz.func101 Z Z Tryz.ntmps101 Z Z ?_;refine aS ?_;refine TL.op (OpR.alloc Z Z (fun _=>Z)) Z (fun p1=>?_);refine aN Z ?_;refine aS ?_;refine aA Z Z ?_;obtain⟨x2,hx2,h0⟩:=bS h0;refine z6 (zh fn169 (qA hx2) Z) Z ?_;obtain⟨x3,hx3,h0⟩:=bS h0;refine z6 (zh fn168 (qO hx3) Z) Z ?_;refine zv (OpR.store 0 Z Z Z Z Z Z Z Z) ?_;refine aN Z ?_;refine T.ret ?_;obtain rfl:=osi h0;exact rO [] [2] Z undef (cV 0 Z Z Z Z ResL.nil) Z Z Z Z
noncomputable def wX.l1 (a0:List scan_Row) (x2:scan_Row) (s5:Int):Option (Lp Int (Ex Unit (Bool × Int))):=
 if s5<(a0.length:Int) then
 bnd (idx a0 s5) fun x14=>
 if x14.fEnd=0 then
 some (Lp.next (w64 (s5+1)))
else
 some (Lp.done (Ex.ret ((!(x2.fEnd==0)),x14.fEnd)))
else
 some (Lp.done (Ex.brk ()))
noncomputable def wX (a0:List scan_Row):Option (Bool × Int):=
 if (a0.length:Int)=0 then
 some (false,2)
else
 bnd (idx a0 (w64 ((a0.length:Int)-1))) fun x2=>
 bnd (loop (wX.l1 a0 x2) 0:Option (Ex Unit (Bool × Int))) fun t3=>match t3 with
| .brk u4=>
 some ((!(x2.fEnd==0)),2)
| .ret u4=>some u4
theorem grid_ends_c {a0:List scan_Row} {res:Bool × Int} (h0:wX a0=some res):zo X 132 [.sl 2 (List.map xX a0)] [] (fun x=>.tup [dT res.1,dN res.2]) (fun x=>[]):=by
 unfold wX at h0;refine zb (X:=X) Z Tryz.func132 Z Z Tryz.ntmps132 Z Z ?_;refine aS ?_;iterate 2 refine aA rfl rfl ?_
 refine aN Z ?_;refine T.seq ?_;refine aS ?_;refine aA Z Z ?_;refine z6 (zk (OpR.pure Z) (xn (w9 _ _))) Z ?_;refine aA Z Z ?_;refine aN Z ?_;rcases z9 h0 with ⟨c1,h0⟩|⟨c1,h0⟩
 ·refine zf Z (beq_iff_eq.2 c1) ?_;refine aS ?_;iterate 2 refine aA rfl rfl ?_
  refine aN Z ?_;refine T.ret ?_;obtain rfl:=osi h0;exact rO [] [2,3] Z undef (cT Z (cT Z ResL.nil)) Z Z Z Z
 refine ze Z (beq_eq_false_iff_ne.2 c1) ?_;refine aK Z ?_;refine aS ?_;iterate 2 refine aA rfl rfl ?_
 refine z6 (zk (OpR.pure Z) (xn (w9 _ _))) Z ?_;refine aA Z Z ?_;obtain⟨x2,hx2,h0⟩:=bS h0;refine z6 (zp xX hx2 Z Z Z Z Z) Z ?_;iterate 4 refine aA rfl rfl ?_
 refine aN Z ?_;refine T.seq ?_;refine aS ?_;refine aA Z Z ?_;refine z6 (zk (OpR.pure Z) (xn (w9 _ _))) Z ?_;refine aA Z Z ?_;refine aN Z ?_;obtain⟨t3,ht3,h0⟩:=bS h0;refine zA (fun S'=>∃ u4,t3=Ex.brk u4∧S'=⟨[(4,(dT (!(x2.fEnd==0)))),(3,(dN 0)),(2,(dT false))],[],32⟩) (fun _ h=>h) ?_ ?_;rotate_left
 ·rintro _ ⟨u4,rfl,rfl⟩;show T X _ _ _;refine aS ?_;iterate 3 refine aA rfl rfl ?_
  refine aN Z ?_;refine T.ret ?_;obtain rfl:=osi h0;exact rO [] [2,3] Z undef (cT Z (cT Z ResL.nil)) Z Z Z Z
 refine T.block ?_;obtain⟨n6,n11⟩:=zy ht3;refine T.loop (fun n S'=>∃ S'',Gst S' S''∧∃ s5:Int,S''=⟨[(20,(dN s5)),(19,(dN (a0.length:Int))),(18,.sl 2 (List.map xX a0)),(4,(dT (!(x2.fEnd==0)))),(3,(dN 0)),(2,(dT false))],[],32⟩∧wo (wX.l1 a0 x2) n s5=some t3) n6 ?_ ?_
 ·exact⟨_,Gst.only [2,3,4,18,19,20] Z,0,Z,n11⟩
 rintro n6 _ ⟨_,g,s5,rfl,i10⟩;refine T.ghost g ?_;obtain⟨m7,q8,rfl,q9,i10⟩:=zz i10;unfold wX.l1 at q9;refine aS ?_;refine aA Z Z ?_;refine aN Z ?_;refine T.seq ?_;rcases z9 q9 with ⟨c13,q9⟩|⟨c13,q9⟩;rotate_left
 ·refine ze Z (eF c13) ?_;refine T.exit ?_;obtain rfl:=osi q9;obtain rfl:_=_:=i10;exact⟨_,Gst.only [2,3,4] Z,_,Z,Z⟩
 refine zf Z (eT c13) ?_;refine aK Z ?_;refine T.seq ?_;refine T.block ?_;refine aS ?_;obtain⟨x14,hx14,q9⟩:=bS q9;refine z6 (zp xX hx14 Z Z Z Z Z) Z ?_;refine aA Z Z ?_;refine TL.op (OpR.alloc Z Z (fun _=>Z)) Z (fun p15=>?_);refine zv (OpR.store 0 Z Z Z Z Z Z Z Z) ?_;refine aN Z ?_;refine aS ?_;refine aA Z Z ?_;refine z6 (z7 0 Z Z Z Z) Z ?_;refine aA Z Z ?_;refine aN Z ?_;rcases z9 q9 with ⟨c16,q9⟩|⟨c16,q9⟩
 ·refine ze Z (zQ (beq_iff_eq.2 c16)) ?_;refine aK Z ?_;refine T.region ?_;iterate 2 refine aA rfl rfl ?_
  refine TL.nil ?_;obtain rfl:=osi q9;exact⟨m7,Nat.lt_succ_self _,_,gP [2,3,4,18,19,20] [] Z Z Z,w64 (s5+1),Z,i10⟩
 refine zf Z (zR (beq_eq_false_iff_ne.2 c16)) ?_;refine T.seq ?_;refine yr zV [dT (!(x2.fEnd==0)),.val (.pointer (some ⟨(blk p15),1,none⟩)),dN x14.fEnd,dT (!(x2.fEnd==0)),dN x14.fEnd] [2,3,4,18,19,20] (by decide +kernel) Z ?_ Z ?_;rotate_left
 ·show T X _ _ _;refine T.ret ?_;obtain rfl:=osi q9;obtain rfl:_=_:=i10;obtain rfl:=osi h0;exact rP [] [2,3] [] Z Z Z undef (cT Z (cT Z ResL.nil)) Z Z Z Z
 iterate 2 refine aB rfl rfl rfl ?_
 refine zw.yes (Want.plain Z) Z (z7 0 Z Z Z Z) ?_;iterate 2 refine aB rfl rfl rfl ?_
 exact zw.nil
noncomputable def xB.l1 (x5:(List scan_Row)) (s13:Int × Int × (List row_Row)):Option (Lp (Int × Int × (List row_Row)) (Ex (List row_Row) ((grid_Grid × Int × (List UInt8)) ⊕ (grid_Grid × Int)))):=
 if s13.2.1<(x5.length:Int) then
 bnd (idx x5 s13.2.1) fun x22=>
 bnd (uj x22) fun x24=>
 bnd (idx s13.2.2 s13.2.1) fun x25=>
 if x24.2=0 then
 some (Lp.next (x24.2,w64 (s13.2.1+1),(s13.2.2.set s13.2.1.toNat x24.1)))
else
 bnd (vl x24.2) fun x27=>
 some (Lp.done (Ex.ret (Sum.inl (x27.1,x27.2.1,x27.2.2))))
else
 some (Lp.done (Ex.brk s13.2.2))
noncomputable def xB.l2 (x35:(List scan_Row)) (s43:Int × Int × (List row_Row)):Option (Lp (Int × Int × (List row_Row)) (Ex (List row_Row) ((grid_Grid × Int × (List UInt8)) ⊕ (grid_Grid × Int)))):=
 if s43.2.1<(x35.length:Int) then
 bnd (idx x35 s43.2.1) fun x52=>
 bnd (uj x52) fun x54=>
 bnd (idx s43.2.2 s43.2.1) fun x55=>
 if x54.2=0 then
 some (Lp.next (x54.2,w64 (s43.2.1+1),(s43.2.2.set s43.2.1.toNat x54.1)))
else
 bnd (vl x54.2) fun x57=>
 some (Lp.done (Ex.ret (Sum.inl (x57.1,x57.2.1,x57.2.2))))
else
 some (Lp.done (Ex.brk s43.2.2))
noncomputable def xB (a0:List UInt8):Option ((grid_Grid × Int × (List UInt8)) ⊕ (grid_Grid × Int)):=
 bnd (sn a0) fun x2=>
 match x2 with
 | .inl x2=>
  if x2=0 then
   bnd (vR a0) fun x5=>
   if (x5.length:Int)>400 then
    bnd (vl 6) fun x7=>
    some (Sum.inl (x7.1,x7.2.1,x7.2.2))
   else
    bnd (mkz 40 (x5.length:Int) ((⟨[],0,false⟩:row_Row):row_Row)) fun x9=>
    bnd (loop (xB.l1 x5) (x2,0,x9):Option (Ex (List row_Row) ((grid_Grid × Int × (List UInt8)) ⊕ (grid_Grid × Int)))) fun t11=>match t11 with
     | .brk u12=>
      bnd (wY u12) fun x29=>
      bnd (wX x5) fun x31=>
      some (Sum.inr ((⟨x29,x31.1,x31.2⟩:grid_Grid),0))
     | .ret u12=>some u12
  else
   bnd (vl x2) fun x32=>
   some (Sum.inl (x32.1,x32.2.1,x32.2.2))
 | .inr x2=>
  if x2.1=0 then
   bnd (vR a0) fun x35=>
   if (x35.length:Int)>400 then
    bnd (vl 6) fun x37=>
    some (Sum.inl (x37.1,x37.2.1,x37.2.2))
   else
    bnd (mkz 40 (x35.length:Int) ((⟨[],0,false⟩:row_Row):row_Row)) fun x39=>
    bnd (loop (xB.l2 x35) (x2.1,0,x39):Option (Ex (List row_Row) ((grid_Grid × Int × (List UInt8)) ⊕ (grid_Grid × Int)))) fun t41=>match t41 with
     | .brk u42=>
      bnd (wY u42) fun x59=>
      bnd (wX x35) fun x61=>
      some (Sum.inl ((⟨x59,x61.1,x61.2⟩:grid_Grid),0,x2.2))
     | .ret u42=>some u42
  else
   bnd (vl x2.1) fun x62=>
   some (Sum.inl (x62.1,x62.2.1,x62.2.2))
theorem grid_Load_c {a0:List UInt8} {res:(grid_Grid × Int × (List UInt8)) ⊕ (grid_Grid × Int)} (h0:xB a0=some res):zo X 67 [.sl 1 (lB a0)] [] (fun x=>(match res with | .inl res=>.tup [.agg [(eOP res.1.fRows.fRoot),dT res.1.fTail,dN res.1.fEnd],dP (blk (vn x 0)),dN res.2.1] | .inr res=>.tup [.agg [(eOP res.1.fRows.fRoot),dT res.1.fTail,dN res.1.fEnd],dQ,dN res.2])) (fun x=>(match res with | .inl res=>[.var (blk (vn x 0)) [.val (vn x 1)] 264,.row (vn x 1) (lB res.2.2) 1 5] | .inr res=>[])):=by
 unfold xB at h0;refine zb (X:=X) Z Tryz.func67 Z Z Tryz.ntmps67 Z Z ?_;refine aS ?_;refine TL.op (OpR.alloc Z Z (fun _=>Z)) Z (fun p1=>?_);iterate 2 refine aA rfl rfl ?_
 refine aN Z ?_;refine aS ?_;refine aA Z Z ?_;obtain⟨x2,hx2,h0⟩:=bS h0;rcases x2 with x2|x2
 ·dsimp only at h0;refine z6 (zh fn128 (arena_New_cx1 hx2) Z) Z ?_;iterate 5 refine aA rfl rfl ?_
  refine aN Z ?_;refine T.seq ?_;refine aS ?_;iterate 2 refine aA rfl rfl ?_
  refine aN Z ?_;rcases z9 h0 with ⟨c4,h0⟩|⟨c4,h0⟩;rotate_left
  ·refine zf Z (zR (beq_eq_false_iff_ne.2 c4)) ?_;refine aS ?_;refine aA Z Z ?_;obtain⟨x32,hx32,h0⟩:=bS h0;refine TL.op (OpR.call [] fn129 (vP hx32) Z Z Z (fun _=>Z)) Z (fun w33=>?_);iterate 3 refine aA rfl rfl ?_
   refine zv (OpR.store 0 Z Z Z Z Z Z Z Z) ?_;iterate 2 refine aA rfl rfl ?_
   refine aN Z ?_;refine T.ret ?_;obtain rfl:=osi h0;exact rO [1,2] [2,3,4] Z (.tuple #[(vn w33 0),(vn w33 1)]) (cV 0 Z Z Z Z (cT Z (cT Z ResL.nil))) Z Z Z Z
  refine ze Z (zQ (beq_iff_eq.2 c4)) ?_;refine aK Z ?_;refine aS ?_;refine aA Z Z ?_;obtain⟨x5,hx5,h0⟩:=bS h0;refine z6 (zh fn130 (scan_All_c hx5) Z) Z ?_;refine aA Z Z ?_;refine aN Z ?_;refine T.seq ?_;refine aS ?_;refine aA Z Z ?_;refine z6 (zk (OpR.pure Z) (xn (w9 _ _))) Z ?_;refine aA Z Z ?_;refine aN Z ?_;rcases z9 h0 with ⟨c6,h0⟩|⟨c6,h0⟩
  ·refine zf Z (eT c6) ?_;refine aS ?_;obtain⟨x7,hx7,h0⟩:=bS h0;refine TL.op (OpR.call [] fn129 (vP hx7) Z Z Z (fun _=>Z)) Z (fun w8=>?_);iterate 3 refine aA rfl rfl ?_
   refine zv (OpR.store 0 Z Z Z Z Z Z Z Z) ?_;iterate 2 refine aA rfl rfl ?_
   refine aN Z ?_;refine T.ret ?_;obtain rfl:=osi h0;exact rO [1,2] [2,3,4] Z (.tuple #[(vn w8 0),(vn w8 1)]) (cV 0 Z Z Z Z (cT Z (cT Z ResL.nil))) Z Z Z Z
  refine ze Z (eF c6) ?_;refine aK Z ?_;refine aS ?_;refine aA Z Z ?_;refine z6 (zk (OpR.pure Z) (xn (w9 _ _))) Z ?_;obtain⟨x9,hx9,h0⟩:=bS h0;refine TL.op (qo z8 hx9 Z Z Z Z Z Z Z Z Z Z (ReL.cons (Re.base .nil) (ReL.cons Re.refl (ReL.cons Re.refl ReL.nil))) Z (fun _=>Z)) Z (fun v10=>?_);refine aA Z Z ?_;refine aN Z ?_;refine T.seq ?_;refine aS ?_;refine aA Z Z ?_;refine z6 (zk (OpR.pure Z) (xn (w9 _ _))) Z ?_;refine aA Z Z ?_;refine aN Z ?_;obtain⟨t11,ht11,h0⟩:=bS h0;refine zA (fun S'=>∃ u12,t11=Ex.brk u12∧S'=⟨[(8,.val v10),(7,.sl 2 (List.map xX x5)),(5,dQ),(4,(dN 0)),(3,dQ),(2,(dP (blk p1)))],[.var (blk p1) [(eOP none),dT false,dN 0] 27,.row v10 (List.map z8 u12) 3 49],71⟩) (fun _ h=>h) ?_ ?_;rotate_left
  ·rintro _ ⟨u12,rfl,rfl⟩;show T X _ _ _;refine aS ?_;refine aA Z Z ?_;refine TL.ghost (zC 1 Z Z (ReS.cons (Re.base .all) (ReS.refl _)) (ReO.same (ReO.same ReO.nil))) ?_;obtain⟨x29,hx29,h0⟩:=bS h0;refine z6 (zh fn101 (tq hx29) Z) Z ?_;refine z6 (OpR.build Z Z Z Z Z) Z ?_;refine TL.op (OpR.alloc Z Z (fun _=>Z)) Z (fun p30=>?_);refine zv (OpR.store 2 Z Z Z Z Z Z Z Z) ?_;refine aN Z ?_;refine aS ?_;refine aA Z Z ?_;obtain⟨x31,hx31,h0⟩:=bS h0;refine z6 (zh fn132 (grid_ends_c hx31) Z) Z ?_;iterate 4 refine aA rfl rfl ?_
   refine zv (OpR.store 2 Z Z Z Z Z Z Z Z) ?_;refine aA Z Z ?_;refine zv (OpR.store 2 Z Z Z Z Z Z Z Z) ?_;refine aN Z ?_;refine aS ?_;refine z6 (z7 2 Z Z Z Z) Z ?_;refine aA Z Z ?_;refine zv (OpR.store 0 Z Z Z Z Z Z Z Z) ?_;iterate 2 refine aA rfl rfl ?_
   refine aN Z ?_;refine T.ret ?_;obtain rfl:=osi h0;exact rP [] [2,3,4] [0] Z Z Z undef (cV 0 Z Z Z Z (cT Z (cT Z ResL.nil))) Z Z Z Z
  refine T.block ?_;obtain⟨n14,n19⟩:=zy ht11;refine T.loop (fun n S'=>∃ S'',Gst S' S''∧∃ s13:Int × Int × (List row_Row),S''=⟨[(38,(dN s13.2.1)),(37,(dN (x5.length:Int))),(36,.sl 2 (List.map xX x5)),(8,.val v10),(7,.sl 2 (List.map xX x5)),(6,(dN s13.1)),(5,dQ),(4,(dN 0)),(3,dQ),(2,(dP (blk p1)))],[.var (blk p1) [(eOP none),dT false,dN 0] 27,.row v10 (List.map z8 s13.2.2) 3 49],71⟩∧wo (xB.l1 x5) n s13=some t11) n14 ?_ ?_
  ·exact⟨_,Gst.only [2,3,4,5,6,7,8,36,37,38] Z,(x2,0,x9),Z,n19⟩
  rintro n14 _ ⟨_,g,s13,rfl,i18⟩;refine T.ghost g ?_;obtain⟨m15,q16,rfl,q17,i18⟩:=zz i18;unfold xB.l1 at q17;refine aS ?_;refine aA Z Z ?_;refine aN Z ?_;refine T.seq ?_;rcases z9 q17 with ⟨c21,q17⟩|⟨c21,q17⟩;rotate_left
  ·refine ze Z (eF c21) ?_;refine T.exit ?_;obtain rfl:=osi q17;obtain rfl:_=_:=i18;exact⟨_,Gst.only [2,3,4,5,7,8] Z,_,Z,Z⟩
  refine zf Z (eT c21) ?_;refine aK Z ?_;refine T.seq ?_;refine T.block ?_;refine aS ?_;refine aA Z Z ?_;obtain⟨x22,hx22,q17⟩:=bS q17;refine z6 (zp xX hx22 Z Z Z Z Z) Z ?_;refine aA Z Z ?_;refine TL.op (OpR.alloc Z Z (fun _=>Z)) Z (fun p23=>?_);refine aA Z Z ?_;refine zv (OpR.store 2 Z Z Z Z Z Z Z Z) ?_;refine aN Z ?_;refine aS ?_;iterate 2 refine aA rfl rfl ?_
  refine z6 (z7 2 Z Z Z Z) Z ?_;obtain⟨x24,hx24,q17⟩:=bS q17;refine z6 (zh fn131 (row_Load_c hx24) Z) Z ?_;iterate 3 refine aA rfl rfl ?_
  obtain⟨x25,hx25,q17⟩:=bS q17;refine z6 (zO z8 1 hx25 Z Z Z Z Z Z Z) Z ?_;refine zv (yD (j:=s13.2.1) z8 x24.1 1 hx25 Z Z Z Z Z Z Z Z Z) ?_;refine aA Z Z ?_;refine aN Z ?_;refine aS ?_;iterate 2 refine aA rfl rfl ?_
  refine aN Z ?_;rcases z9 q17 with ⟨c26,q17⟩|⟨c26,q17⟩
  ·refine ze Z (zQ (beq_iff_eq.2 c26)) ?_;refine aK Z ?_;refine T.region ?_;iterate 2 refine aA rfl rfl ?_
   refine TL.nil ?_;obtain rfl:=osi q17;exact⟨m15,Nat.lt_succ_self _,_,gP [2,3,4,5,6,7,8,36,37,38] [0,1] Z Z Z,(x24.2,w64 (s13.2.1+1),(s13.2.2.set s13.2.1.toNat x24.1)),Z,i18⟩
  refine zf Z (zR (beq_eq_false_iff_ne.2 c26)) ?_;refine aS ?_;refine aA Z Z ?_;obtain⟨x27,hx27,q17⟩:=bS q17;refine TL.op (OpR.call [] fn129 (vP hx27) Z Z Z (fun _=>Z)) Z (fun w28=>?_);iterate 3 refine aA rfl rfl ?_
  refine zv (OpR.store 0 Z Z Z Z Z Z Z Z) ?_;iterate 2 refine aA rfl rfl ?_
  refine aN Z ?_;refine T.ret ?_;obtain rfl:=osi q17;obtain rfl:_=_:=i18;obtain rfl:=osi h0;exact rP [1,2] [2,3,4] [0,3,4] Z Z Z (.tuple #[(vn w28 0),(vn w28 1)]) (cV 0 Z Z Z Z (cT Z (cT Z ResL.nil))) Z Z Z Z
 dsimp only at h0;refine TL.op (OpR.call [] fn128 (arena_New_cx2 hx2) Z Z Z (fun _=>Z)) Z (fun w3=>?_);iterate 5 refine aA rfl rfl ?_
 refine aN Z ?_;refine T.seq ?_;refine aS ?_;iterate 2 refine aA rfl rfl ?_
 refine aN Z ?_;rcases z9 h0 with ⟨c34,h0⟩|⟨c34,h0⟩;rotate_left
 ·refine zf Z (zR (beq_eq_false_iff_ne.2 c34)) ?_;refine aS ?_;refine aA Z Z ?_;obtain⟨x62,hx62,h0⟩:=bS h0;refine TL.op (OpR.call [] fn129 (vP hx62) Z Z Z (fun _=>Z)) Z (fun w63=>?_);iterate 3 refine aA rfl rfl ?_
  refine zv (OpR.store 0 Z Z Z Z Z Z Z Z) ?_;iterate 2 refine aA rfl rfl ?_
  refine aN Z ?_;refine T.ret ?_;obtain rfl:=osi h0;exact rP [1,2] [2,3,4] [0,3,4] Z Z Z (.tuple #[(vn w63 0),(vn w63 1)]) (cV 0 Z Z Z Z (cT Z (cT Z ResL.nil))) Z Z Z Z
 refine ze Z (zQ (beq_iff_eq.2 c34)) ?_;refine aK Z ?_;refine aS ?_;refine aA Z Z ?_;obtain⟨x35,hx35,h0⟩:=bS h0;refine z6 (zh fn130 (scan_All_c hx35) Z) Z ?_;refine aA Z Z ?_;refine aN Z ?_;refine T.seq ?_;refine aS ?_;refine aA Z Z ?_;refine z6 (zk (OpR.pure Z) (xn (w9 _ _))) Z ?_;refine aA Z Z ?_;refine aN Z ?_;rcases z9 h0 with ⟨c36,h0⟩|⟨c36,h0⟩
 ·refine zf Z (eT c36) ?_;refine aS ?_;obtain⟨x37,hx37,h0⟩:=bS h0;refine TL.op (OpR.call [] fn129 (vP hx37) Z Z Z (fun _=>Z)) Z (fun w38=>?_);iterate 3 refine aA rfl rfl ?_
  refine zv (OpR.store 0 Z Z Z Z Z Z Z Z) ?_;iterate 2 refine aA rfl rfl ?_
  refine aN Z ?_;refine T.ret ?_;obtain rfl:=osi h0;exact rP [1,2] [2,3,4] [0,3,4] Z Z Z (.tuple #[(vn w38 0),(vn w38 1)]) (cV 0 Z Z Z Z (cT Z (cT Z ResL.nil))) Z Z Z Z
 refine ze Z (eF c36) ?_;refine aK Z ?_;refine aS ?_;refine aA Z Z ?_;refine z6 (zk (OpR.pure Z) (xn (w9 _ _))) Z ?_;obtain⟨x39,hx39,h0⟩:=bS h0;refine TL.op (qo z8 hx39 Z Z Z Z Z Z Z Z Z Z (ReL.cons (Re.base .nil) (ReL.cons Re.refl (ReL.cons Re.refl ReL.nil))) Z (fun _=>Z)) Z (fun v40=>?_);refine aA Z Z ?_;refine aN Z ?_;refine T.seq ?_;refine aS ?_;refine aA Z Z ?_;refine z6 (zk (OpR.pure Z) (xn (w9 _ _))) Z ?_;refine aA Z Z ?_;refine aN Z ?_;obtain⟨t41,ht41,h0⟩:=bS h0;refine zA (fun S'=>∃ u42,t41=Ex.brk u42∧S'=⟨[(8,.val v40),(7,.sl 2 (List.map xX x35)),(5,(dP (blk (vn w3 0)))),(4,(dN 0)),(3,dQ),(2,(dP (blk p1)))],[.var (blk p1) [(eOP none),dT false,dN 0] 27,.var (blk (vn w3 0)) [.val (vn w3 1)] 264,.row v40 (List.map z8 u42) 3 49,.row (vn w3 1) (lB x2.2) 1 5],71⟩) (fun _ h=>h) ?_ ?_;rotate_left
 ·rintro _ ⟨u42,rfl,rfl⟩;show T X _ _ _;refine aS ?_;refine aA Z Z ?_;refine TL.ghost (zC 2 Z Z (ReS.cons (Re.base .all) (ReS.refl _)) (ReO.same (ReO.same (ReO.same (ReO.same ReO.nil))))) ?_;obtain⟨x59,hx59,h0⟩:=bS h0;refine z6 (zh fn101 (tq hx59) Z) Z ?_;refine z6 (OpR.build Z Z Z Z Z) Z ?_;refine TL.op (OpR.alloc Z Z (fun _=>Z)) Z (fun p60=>?_);refine zv (OpR.store 4 Z Z Z Z Z Z Z Z) ?_;refine aN Z ?_;refine aS ?_;refine aA Z Z ?_;obtain⟨x61,hx61,h0⟩:=bS h0;refine z6 (zh fn132 (grid_ends_c hx61) Z) Z ?_;iterate 4 refine aA rfl rfl ?_
  refine zv (OpR.store 4 Z Z Z Z Z Z Z Z) ?_;refine aA Z Z ?_;refine zv (OpR.store 4 Z Z Z Z Z Z Z Z) ?_;refine aN Z ?_;refine aS ?_;refine z6 (z7 4 Z Z Z Z) Z ?_;refine aA Z Z ?_;refine zv (OpR.store 0 Z Z Z Z Z Z Z Z) ?_;iterate 2 refine aA rfl rfl ?_
  refine aN Z ?_;refine T.ret ?_;obtain rfl:=osi h0;exact rP [1,2] [2,3,4] [0,1,3] Z Z Z (.tuple #[(vn w3 0),(vn w3 1)]) (cV 0 Z Z Z Z (cT Z (cT Z ResL.nil))) Z Z Z Z
 refine T.block ?_;obtain⟨n44,n49⟩:=zy ht41;refine T.loop (fun n S'=>∃ S'',Gst S' S''∧∃ s43:Int × Int × (List row_Row),S''=⟨[(38,(dN s43.2.1)),(37,(dN (x35.length:Int))),(36,.sl 2 (List.map xX x35)),(8,.val v40),(7,.sl 2 (List.map xX x35)),(6,(dN s43.1)),(5,(dP (blk (vn w3 0)))),(4,(dN 0)),(3,dQ),(2,(dP (blk p1)))],[.var (blk p1) [(eOP none),dT false,dN 0] 27,.var (blk (vn w3 0)) [.val (vn w3 1)] 264,.row v40 (List.map z8 s43.2.2) 3 49,.row (vn w3 1) (lB x2.2) 1 5],71⟩∧wo (xB.l2 x35) n s43=some t41) n44 ?_ ?_
 ·exact⟨_,gP [2,3,4,5,6,7,8,36,37,38] [0,1,3,2] Z Z Z,(x2.1,0,x39),Z,n49⟩
 rintro n44 _ ⟨_,g,s43,rfl,i48⟩;refine T.ghost g ?_;obtain⟨m45,q46,rfl,q47,i48⟩:=zz i48;unfold xB.l2 at q47;refine aS ?_;refine aA Z Z ?_;refine aN Z ?_;refine T.seq ?_;rcases z9 q47 with ⟨c51,q47⟩|⟨c51,q47⟩;rotate_left
 ·refine ze Z (eF c51) ?_;refine T.exit ?_;obtain rfl:=osi q47;obtain rfl:_=_:=i48;exact⟨_,Gst.only [2,3,4,5,7,8] Z,_,Z,Z⟩
 refine zf Z (eT c51) ?_;refine aK Z ?_;refine T.seq ?_;refine T.block ?_;refine aS ?_;refine aA Z Z ?_;obtain⟨x52,hx52,q47⟩:=bS q47;refine z6 (zp xX hx52 Z Z Z Z Z) Z ?_;refine aA Z Z ?_;refine TL.op (OpR.alloc Z Z (fun _=>Z)) Z (fun p53=>?_);refine aA Z Z ?_;refine zv (OpR.store 4 Z Z Z Z Z Z Z Z) ?_;refine aN Z ?_;refine aS ?_;iterate 2 refine aA rfl rfl ?_
 refine z6 (z7 4 Z Z Z Z) Z ?_;obtain⟨x54,hx54,q47⟩:=bS q47;refine z6 (zh fn131 (row_Load_c hx54) Z) Z ?_;iterate 3 refine aA rfl rfl ?_
 obtain⟨x55,hx55,q47⟩:=bS q47;refine z6 (zO z8 2 hx55 Z Z Z Z Z Z Z) Z ?_;refine zv (yD (j:=s43.2.1) z8 x54.1 2 hx55 Z Z Z Z Z Z Z Z Z) ?_;refine aA Z Z ?_;refine aN Z ?_;refine aS ?_;iterate 2 refine aA rfl rfl ?_
 refine aN Z ?_;rcases z9 q47 with ⟨c56,q47⟩|⟨c56,q47⟩
 ·refine ze Z (zQ (beq_iff_eq.2 c56)) ?_;refine aK Z ?_;refine T.region ?_;iterate 2 refine aA rfl rfl ?_
  refine TL.nil ?_;obtain rfl:=osi q47;exact⟨m45,Nat.lt_succ_self _,_,gP [2,3,4,5,6,7,8,36,37,38] [0,1,2,3] Z Z Z,(x54.2,w64 (s43.2.1+1),(s43.2.2.set s43.2.1.toNat x54.1)),Z,i48⟩
 refine zf Z (zR (beq_eq_false_iff_ne.2 c56)) ?_;refine aS ?_;refine aA Z Z ?_;obtain⟨x57,hx57,q47⟩:=bS q47;refine TL.op (OpR.call [] fn129 (vP hx57) Z Z Z (fun _=>Z)) Z (fun w58=>?_);iterate 3 refine aA rfl rfl ?_
 refine zv (OpR.store 0 Z Z Z Z Z Z Z Z) ?_;iterate 2 refine aA rfl rfl ?_
 refine aN Z ?_;refine T.ret ?_;obtain rfl:=osi q47;obtain rfl:_=_:=i48;obtain rfl:=osi h0;exact rP [1,2] [2,3,4] [0,5,6] Z Z Z (.tuple #[(vn w58 0),(vn w58 1)]) (cV 0 Z Z Z Z (cT Z (cT Z ResL.nil))) Z Z Z Z
theorem pM {a0:List UInt8} {res:grid_Grid × Int × (List UInt8)} (h0:xB a0=some (Sum.inl res)):zo X 67 [.sl 1 (lB a0)] [] (fun x=>.tup [.agg [(eOP res.1.fRows.fRoot),dT res.1.fTail,dN res.1.fEnd],dP (blk (vn x 0)),dN res.2.1]) (fun x=>[.var (blk (vn x 0)) [.val (vn x 1)] 264,.row (vn x 1) (lB res.2.2) 1 5]):=grid_Load_c h0
theorem pL {a0:List UInt8} {res:grid_Grid × Int} (h0:xB a0=some (Sum.inr res)):zo X 67 [.sl 1 (lB a0)] [] (fun x=>.tup [.agg [(eOP res.1.fRows.fRoot),dT res.1.fTail,dN res.1.fEnd],dQ,dN res.2]) (fun x=>[]):=grid_Load_c h0
noncomputable def vF (a0:List UInt8) (a1:Int):Option Bool:=
 bnd (if a1<(a0.length:Int) then
 bnd (idx a0 a1) fun x3=>
 some ((x3.toNat:Int)==34)
else
 some false:Option Bool) fun t1=>
 some t1
theorem uU {a0:List UInt8} {a1:Int} {res:Bool} (h0:vF a0 a1=some res):zo X 255 [.val (.string (bs a0)),dN a1] [] (fun x=>(dT res)) (fun x=>[]):=by
 unfold vF at h0;refine zb (X:=X) Z Tryz.func255 Z Z Tryz.ntmps255 Z Z ?_;refine aS ?_;refine aA Z Z ?_;refine aN Z ?_;refine T.seq ?_;obtain⟨t1,ht1,h0⟩:=bS h0;refine zA (fun S'=>S'=⟨[(4,(dT t1))],[],15⟩) (fun _ h=>h) ?_ ?_;rotate_left
 ·rintro _ rfl;show T X _ _ _;refine T.ret ?_;obtain rfl:=osi h0;exact rO [] [4] Z undef (cT Z ResL.nil) Z Z Z Z
 refine T.region ?_;iterate 2 refine aA rfl rfl ?_
 refine z6 (zk (OpR.pure Z) (xn (lenS _))) Z ?_;iterate 2 refine aA rfl rfl ?_
 rcases z9 ht1 with ⟨c2,ht1⟩|⟨c2,ht1⟩;rotate_left
 ·refine TL.off Z Z Z Z (eF c2) Z Z ?_;refine TL.off Z Z Z Z (eF c2) Z Z ?_;refine TL.off Z Z Z Z (eF c2) Z Z ?_;refine TL.off Z Z Z Z (eF c2) Z Z ?_;refine z6 (zx Z (eF c2) Z) Z ?_;refine aA Z Z ?_;refine TL.nil ?_;obtain rfl:=osi ht1;exact⟨_,Gst.only [4] Z,Z⟩
 refine TL.on Z Z Z Z (eT c2) ?_;refine aA Z Z ?_;refine TL.on Z Z Z Z (eT c2) ?_;refine aA Z Z ?_;refine TL.on Z Z Z Z (eT c2) ?_;obtain⟨x3,hx3,ht1⟩:=bS ht1;refine z6 (wh hx3 Z Z Z Z) Z ?_;refine TL.on Z Z Z Z (eT c2) ?_;refine aA Z Z ?_;refine z6 (zt Z (eT c2) Z) Z ?_;refine aA Z Z ?_;refine TL.nil ?_;obtain rfl:=osi ht1;exact⟨_,Gst.only [4] Z,Z⟩
noncomputable def rh (a0:List UInt8) (a1:Int):Option Bool:=
 bnd (if a1≥(a0.length:Int) then
 some true
else
 bnd (idx a0 a1) fun x3=>
 if (x3.toNat:Int)=44 then
 some true
else
 if (x3.toNat:Int)=13 then
 some true
else
 some ((x3.toNat:Int)==10):Option Bool) fun t1=>
 some t1
theorem ref05_mark_c {a0:List UInt8} {a1:Int} {res:Bool} (h0:rh a0 a1=some res):zo X 272 [.val (.string (bs a0)),dN a1] [] (fun x=>(dT res)) (fun x=>[]):=by
 unfold rh at h0;refine zb (X:=X) Z Tryz.func272 Z Z Tryz.ntmps272 Z Z ?_;refine aS ?_;refine aA Z Z ?_;refine aN Z ?_;refine T.seq ?_;obtain⟨t1,ht1,h0⟩:=bS h0;refine zA (fun S'=>S'=⟨[(4,(dT t1))],[],27⟩) (fun _ h=>h) ?_ ?_;rotate_left
 ·rintro _ rfl;show T X _ _ _;refine T.ret ?_;obtain rfl:=osi h0;exact rO [] [4] Z undef (cT Z ResL.nil) Z Z Z Z
 refine T.region ?_;iterate 2 refine aA rfl rfl ?_
 refine z6 (zk (OpR.pure Z) (xn (lenS _))) Z ?_;iterate 2 refine aA rfl rfl ?_
 rcases z9 ht1 with ⟨c2,ht1⟩|⟨c2,ht1⟩
 ·refine TL.off Z Z Z Z (eT c2) Z Z ?_;refine TL.off Z Z Z Z (eT c2) Z Z ?_;refine TL.off Z Z Z Z (eT c2) Z Z ?_;refine TL.off Z Z Z Z (eT c2) Z Z ?_;refine z6 (zt Z (eT c2) Z) Z ?_;refine aA Z Z ?_;refine TL.off Z Z Z Z Z Z Z ?_;refine TL.off Z Z Z Z Z Z Z ?_;refine TL.off Z Z Z Z Z Z Z ?_;refine TL.off Z Z Z Z Z Z Z ?_;refine z6 (zt Z Z Z) Z ?_;refine aA Z Z ?_;refine TL.off Z Z Z Z Z Z Z ?_;refine TL.off Z Z Z Z Z Z Z ?_;refine TL.off Z Z Z Z Z Z Z ?_;refine TL.off Z Z Z Z Z Z Z ?_;refine z6 (zt Z Z Z) Z ?_;refine aA Z Z ?_;refine TL.nil ?_;obtain rfl:=osi ht1;exact⟨_,Gst.only [4] Z,Z⟩
 refine TL.on Z Z Z Z (eF c2) ?_;refine aA Z Z ?_;refine TL.on Z Z Z Z (eF c2) ?_;refine aA Z Z ?_;refine TL.on Z Z Z Z (eF c2) ?_;obtain⟨x3,hx3,ht1⟩:=bS ht1;refine z6 (wh hx3 Z Z Z Z) Z ?_;refine TL.on Z Z Z Z (eF c2) ?_;refine aA Z Z ?_;refine z6 (zx Z (eF c2) Z) Z ?_;refine aA Z Z ?_;rcases z9 ht1 with ⟨c4,ht1⟩|⟨c4,ht1⟩
 ·refine TL.off Z Z Z Z (beq_iff_eq.2 c4) Z Z ?_;refine TL.off Z Z Z Z (beq_iff_eq.2 c4) Z Z ?_;refine TL.off Z Z Z Z (beq_iff_eq.2 c4) Z Z ?_;refine TL.off Z Z Z Z (beq_iff_eq.2 c4) Z Z ?_;refine z6 (zt Z (beq_iff_eq.2 c4) Z) Z ?_;refine aA Z Z ?_;refine TL.off Z Z Z Z Z Z Z ?_;refine TL.off Z Z Z Z Z Z Z ?_;refine TL.off Z Z Z Z Z Z Z ?_;refine TL.off Z Z Z Z Z Z Z ?_;refine z6 (zt Z Z Z) Z ?_;refine aA Z Z ?_;refine TL.nil ?_;obtain rfl:=osi ht1;exact⟨_,Gst.only [4] Z,Z⟩
 refine TL.on Z Z Z Z (beq_eq_false_iff_ne.2 c4) ?_;refine aA Z Z ?_;refine TL.on Z Z Z Z (beq_eq_false_iff_ne.2 c4) ?_;refine aA Z Z ?_;refine TL.on Z Z Z Z (beq_eq_false_iff_ne.2 c4) ?_;refine z6 (wh hx3 Z Z Z Z) Z ?_;refine TL.on Z Z Z Z (beq_eq_false_iff_ne.2 c4) ?_;refine aA Z Z ?_;refine z6 (zx Z (beq_eq_false_iff_ne.2 c4) Z) Z ?_;refine aA Z Z ?_;rcases z9 ht1 with ⟨c5,ht1⟩|⟨c5,ht1⟩
 ·refine TL.off Z Z Z Z (beq_iff_eq.2 c5) Z Z ?_;refine TL.off Z Z Z Z (beq_iff_eq.2 c5) Z Z ?_;refine TL.off Z Z Z Z (beq_iff_eq.2 c5) Z Z ?_;refine TL.off Z Z Z Z (beq_iff_eq.2 c5) Z Z ?_;refine z6 (zt Z (beq_iff_eq.2 c5) Z) Z ?_;refine aA Z Z ?_;refine TL.nil ?_;obtain rfl:=osi ht1;exact⟨_,Gst.only [4] Z,Z⟩
 refine TL.on Z Z Z Z (beq_eq_false_iff_ne.2 c5) ?_;refine aA Z Z ?_;refine TL.on Z Z Z Z (beq_eq_false_iff_ne.2 c5) ?_;refine aA Z Z ?_;refine TL.on Z Z Z Z (beq_eq_false_iff_ne.2 c5) ?_;refine z6 (wh hx3 Z Z Z Z) Z ?_;refine TL.on Z Z Z Z (beq_eq_false_iff_ne.2 c5) ?_;refine aA Z Z ?_;refine z6 (zx Z (beq_eq_false_iff_ne.2 c5) Z) Z ?_;refine aA Z Z ?_;refine TL.nil ?_;obtain rfl:=osi ht1;exact⟨_,Gst.only [4] Z,Z⟩
noncomputable def wz.l1 (a0:List UInt8) (s2:Int):Option (Lp Int Int):=
 bnd (rh a0 s2) fun x10=>
 if x10=true then
 some (Lp.done s2)
else
 some (Lp.next (w64 (s2+1)))
noncomputable def wz (a0:List UInt8) (a1:Int):Option Int:=
 bnd (loop (wz.l1 a0) a1:Option Int) fun t1=>
 some t1
theorem ref05_till_c {a0:List UInt8} {a1:Int} {res:Int} (h0:wz a0 a1=some res):zo X 256 [.val (.string (bs a0)),dN a1] [] (fun x=>(dN res)) (fun x=>[]):=by
 unfold wz at h0;refine zb (X:=X) Z Tryz.func256 Z Z Tryz.ntmps256 Z Z ?_;refine aS ?_;refine aA Z Z ?_;refine aN Z ?_;refine T.seq ?_;obtain⟨t1,ht1,h0⟩:=bS h0;refine zA (fun S'=>S'=⟨[(4,(dN 0)),(1,(dN t1))],[],12⟩) (fun _ h=>h) ?_ ?_;rotate_left
 ·rintro _ rfl;show T X _ _ _;refine aS ?_;iterate 2 refine aA rfl rfl ?_
  refine aN Z ?_;refine T.ret ?_;obtain rfl:=osi h0;exact rO [] [4] Z undef (cT Z ResL.nil) Z Z Z Z
 refine T.block ?_;obtain⟨n3,n8⟩:=zy ht1;refine T.loop (fun n S'=>∃ S'',Gst S' S''∧∃ s2:Int,S''=⟨[(4,(dN 0)),(1,(dN s2)),(0,.val (.string (bs a0)))],[],12⟩∧wo (wz.l1 a0) n s2=some t1) n3 ?_ ?_
 ·exact⟨_,Gst.only [0,1,4] Z,a1,Z,n8⟩
 rintro n3 _ ⟨_,g,s2,rfl,i7⟩;refine T.ghost g ?_;obtain⟨m4,q5,rfl,q6,i7⟩:=zz i7;unfold wz.l1 at q6;refine T.seq ?_;refine aS ?_;iterate 2 refine aA rfl rfl ?_
 obtain⟨x10,hx10,q6⟩:=bS q6;refine z6 (zh fn272 (ref05_mark_c hx10) Z) Z ?_;refine aA Z Z ?_;refine aN Z ?_;rcases z9 q6 with ⟨c11,q6⟩|⟨c11,q6⟩
 ·refine ze Z (zQ (c11)) ?_;refine T.exit ?_;obtain rfl:=osi q6;obtain rfl:_=_:=i7;exact⟨_,Gst.only [1,4] Z,Z⟩
 refine zf Z (zR (eN c11)) ?_;refine aK Z ?_;refine T.block ?_;refine T.region ?_;iterate 3 refine aA rfl rfl ?_
 refine TL.nil ?_;obtain rfl:=osi q6;exact⟨m4,Nat.lt_succ_self _,_,Gst.only [0,1,4] Z,w64 (s2+1),Z,i7⟩
noncomputable def xh.l1 (a1:Int) (s4:Int × (List Int)):Option (Lp (Int × (List Int)) (List Int)):=
 if s4.1<a1 then
 bnd (app 8 s4.2 [s4.1]) fun x13=>
 some (Lp.next (w64 (s4.1+1),x13))
else
 some (Lp.done s4.2)
noncomputable def xh (a0:Int) (a1:Int) (a2:List Int):Option (List Int):=
 bnd (loop (xh.l1 a1) (a0,a2):Option (List Int)) fun t1=>
 some t1
theorem ref05_places_2_c {a0:Int} {a1:Int} {a2:List Int} {v0:Value} {res:(List Int)} (h0:xh a0 a1 a2=some res):zo X 257 [.val v0,dN a0,dN a1] [.row v0 (List.map (eI .i64) a2) 1 3] (fun x=>.val (vn x 0)) (fun x=>[.row (vn x 0) (List.map (eI .i64) res) 1 3]):=by
 unfold xh at h0;refine zb (X:=X) Z Tryz.func257 Z Z Tryz.ntmps257 Z Z ?_;refine aS ?_;refine aA Z Z ?_;refine aN Z ?_;refine T.seq ?_;refine aS ?_;iterate 2 refine aA rfl rfl ?_
 refine aN Z ?_;obtain⟨t1,ht1,h0⟩:=bS h0;refine zA (fun S'=>∃ y2:Value,S'=⟨[(6,.val (.slice none 0 0)),(0,.val y2)],[.row y2 (List.map (eI .i64) t1) 1 3],19⟩) (fun _ h=>h) ?_ ?_;rotate_left
 ·rintro _ ⟨y2,rfl⟩;show T X _ _ _;refine aS ?_;iterate 2 refine aA rfl rfl ?_
  refine aN Z ?_;refine T.ret ?_;obtain rfl:=osi h0;exact rO [0] [6] Z (.tuple #[y2]) (cT Z ResL.nil) Z Z Z Z
 refine T.block ?_;obtain⟨n5,n10⟩:=zy ht1;refine T.loop (fun n S'=>∃ S'',Gst S' S''∧∃ y3:Value,∃ s4:Int × (List Int),S''=⟨[(7,(dN s4.1)),(6,.val (.slice none 0 0)),(2,(dN a1)),(0,.val y3)],[.row y3 (List.map (eI .i64) s4.2) 1 3],19⟩∧wo (xh.l1 a1) n s4=some t1) n5 ?_ ?_
 ·exact⟨_,Gst.only [0,2,6,7] Z,v0,(a0,a2),Z,n10⟩
 rintro n5 _ ⟨_,g,y3,s4,rfl,i9⟩;refine T.ghost g ?_;obtain⟨m6,q7,rfl,q8,i9⟩:=zz i9;unfold xh.l1 at q8;refine T.seq ?_;refine aS ?_;iterate 3 refine aA rfl rfl ?_
 refine aN Z ?_;rcases z9 q8 with ⟨c12,q8⟩|⟨c12,q8⟩;rotate_left
 ·refine ze Z (eF c12) ?_;refine T.exit ?_;obtain rfl:=osi q8;obtain rfl:_=_:=i9;exact⟨_,Gst.only [0,6] Z,y3,Z⟩
 refine zf Z (eT c12) ?_;refine aK Z ?_;refine T.seq ?_;refine T.block ?_;refine T.region ?_;iterate 2 refine aA rfl rfl ?_
 refine z6 (yN Z Z Z Z Z Z Z) Z ?_;obtain⟨x13,hx13,q8⟩:=bS q8;refine TL.op (zM (m:=[s4.1]) (eI .i64) 0 hx13 Z Z Z Z Z Z Z Z Z (fun _=>Z)) Z (fun v14=>?_);refine aA Z Z ?_;refine aN Z ?_;refine T.region ?_;iterate 3 refine aA rfl rfl ?_
 refine TL.nil ?_;obtain rfl:=osi q8;exact⟨m6,Nat.lt_succ_self _,_,Gst.only [0,2,6,7] Z,v14,(w64 (s4.1+1),x13),Z,i9⟩
noncomputable def xM.l1 (a1:Int) (s4:Int × (List Int)):Option (Lp (Int × (List Int)) (List Int)):=
 if s4.1<a1 then
 bnd (app 8 s4.2 [s4.1]) fun x13=>
 some (Lp.next (w64 (s4.1+1),x13))
else
 some (Lp.done s4.2)
noncomputable def xM (a0:Int) (a1:Int):Option (List Int):=
 bnd (loop (xM.l1 a1) (a0,[]):Option (List Int)) fun t1=>
 some t1
theorem ref05_places_c {a0:Int} {a1:Int} {res:(List Int)} (h0:xM a0 a1=some res):zo X 257 [.val (.slice none 0 0),dN a0,dN a1] [] (fun x=>.sl 1 (List.map (eI .i64) res)) (fun x=>[]):=by
 unfold xM at h0;refine zb (X:=X) Z Tryz.func257 Z Z Tryz.ntmps257 Z Z ?_;refine aS ?_;refine aA Z Z ?_;refine aN Z ?_;refine T.seq ?_;refine aS ?_;iterate 2 refine aA rfl rfl ?_
 refine aN Z ?_;obtain⟨t1,ht1,h0⟩:=bS h0;refine zA (fun S'=>∃ y2:Value,S'=⟨[(6,.val (.slice none 0 0)),(0,.val y2)],[.row y2 (List.map (eI .i64) t1) 1 3],19⟩) (fun _ h=>h) ?_ ?_;rotate_left
 ·rintro _ ⟨y2,rfl⟩;show T X _ _ _;refine aS ?_;iterate 2 refine aA rfl rfl ?_
  refine aN Z ?_;refine T.ret ?_;obtain rfl:=osi h0;exact zE (ks:=[]) (Gst.trans (Gst.only [6] Z) (Gst.trans (zC 0 Z Z (ReS.cons (Re.base .all) ReS.nil) (ReO.same ReO.nil)) (Gst.pick [] Z Z))) undef (cT Z ResL.nil) Z Z Z Z
 refine T.block ?_;obtain⟨n5,n10⟩:=zy ht1;refine T.loop (fun n S'=>∃ S'',Gst S' S''∧∃ y3:Value,∃ s4:Int × (List Int),S''=⟨[(7,(dN s4.1)),(6,.val (.slice none 0 0)),(2,(dN a1)),(0,.val y3)],[.row y3 (List.map (eI .i64) s4.2) 1 3],19⟩∧wo (xM.l1 a1) n s4=some t1) n5 ?_ ?_
 ·exact⟨_,Gst.trans (Gst.only [0,2,6,7] Z) (ye (ow:=[]) 1 3 Z),(.slice none 0 0),(a0,[]),Z,n10⟩
 rintro n5 _ ⟨_,g,y3,s4,rfl,i9⟩;refine T.ghost g ?_;obtain⟨m6,q7,rfl,q8,i9⟩:=zz i9;unfold xM.l1 at q8;refine T.seq ?_;refine aS ?_;iterate 3 refine aA rfl rfl ?_
 refine aN Z ?_;rcases z9 q8 with ⟨c12,q8⟩|⟨c12,q8⟩;rotate_left
 ·refine ze Z (eF c12) ?_;refine T.exit ?_;obtain rfl:=osi q8;obtain rfl:_=_:=i9;exact⟨_,Gst.only [0,6] Z,y3,Z⟩
 refine zf Z (eT c12) ?_;refine aK Z ?_;refine T.seq ?_;refine T.block ?_;refine T.region ?_;iterate 2 refine aA rfl rfl ?_
 refine z6 (yN Z Z Z Z Z Z Z) Z ?_;obtain⟨x13,hx13,q8⟩:=bS q8;refine TL.op (zM (m:=[s4.1]) (eI .i64) 0 hx13 Z Z Z Z Z Z Z Z Z (fun _=>Z)) Z (fun v14=>?_);refine aA Z Z ?_;refine aN Z ?_;refine T.region ?_;iterate 3 refine aA rfl rfl ?_
 refine TL.nil ?_;obtain rfl:=osi q8;exact⟨m6,Nat.lt_succ_self _,_,Gst.only [0,2,6,7] Z,v14,(w64 (s4.1+1),x13),Z,i9⟩
noncomputable def yO.l1 (a0:List UInt8) (s8:Int × (List Int)):Option (Lp (Int × (List Int)) (Int × (List Int))):=
 bnd (if s8.1<(a0.length:Int) then
 bnd (vF a0 s8.1) fun x18=>
 if x18=true then
 bnd (vF a0 (w64 (s8.1+1))) fun x20=>
 some x20
else
 some true
else
 some false:Option Bool) fun t16=>
 if t16=true then
 bnd (app 8 s8.2 [s8.1]) fun x22=>
 bnd (vF a0 s8.1) fun x24=>
 bnd (if x24=true then
 some (w64 (s8.1+1))
else
 some s8.1:Option Int) fun t25=>
 some (Lp.next (w64 (t25+1),x22))
else
 some (Lp.done (s8.1,s8.2))
noncomputable def yO.l2 (a0:List UInt8) (x33:Int) (s36:Int × Int):Option (Lp (Int × Int) Int):=
 if s36.1<x33 then
 bnd (vF a0 s36.1) fun x45=>
 bnd (if x45=true then
 some 2
else
 some s36.2:Option Int) fun t46=>
 some (Lp.next (w64 (s36.1+1),t46))
else
 some (Lp.done s36.2)
noncomputable def yO (a0:List UInt8) (a1:Int):Option ref05_Field:=
 bnd (vF a0 a1) fun x3=>
 if x3=true then
 bnd (loop (yO.l1 a0) (w64 (a1+1),[]):Option (Int × (List Int))) fun t5=>
 if t5.1≥(a0.length:Int) then
 some (⟨(⟨a1,w64 ((a0.length:Int)-a1)⟩:ref03_Span),4,t5.2⟩:ref05_Field)
else
 bnd (wz a0 (w64 (t5.1+1))) fun x28=>
 bnd (if x28>(w64 (t5.1+1)) then
 some 3
else
 some 1:Option Int) fun t29=>
 bnd (xh (w64 (t5.1+1)) x28 t5.2) fun x31=>
 some (⟨(⟨a1,w64 (x28-a1)⟩:ref03_Span),t29,x31⟩:ref05_Field)
else
 bnd (wz a0 a1) fun x33=>
 bnd (xM a1 x33) fun x34=>
 bnd (loop (yO.l2 a0 x33) (a1,0):Option Int) fun t35=>
 some (⟨(⟨a1,w64 (x33-a1)⟩:ref03_Span),t35,x34⟩:ref05_Field)
theorem ref05_field_c {a0:List UInt8} {a1:Int} {res:ref05_Field} (h0:yO a0 a1=some res):zo X 229 [.val (.string (bs a0)),dN a1] [] (fun x=>.agg [dN res.fRaw.fAt,dN res.fRaw.fN,dN res.fKind,.sl 1 (List.map (eI .i64) res.fBytes)]) (fun x=>[]):=by
 unfold yO at h0;refine zb (X:=X) Z Tryz.func229 Z Z Tryz.ntmps229 Z Z ?_;refine aS ?_;refine TL.op (OpR.alloc Z Z (fun _=>Z)) Z (fun p1=>?_);refine aN Z ?_;refine aS ?_;refine z6 (OpR.build Z Z Z Z Z) Z ?_;refine TL.op (OpR.alloc Z Z (fun _=>Z)) Z (fun p2=>?_);refine zv (OpR.store 1 Z Z Z Z Z Z Z Z) ?_;refine aN Z ?_;refine T.seq ?_;refine aS ?_;iterate 2 refine aA rfl rfl ?_
 obtain⟨x3,hx3,h0⟩:=bS h0;refine z6 (zh fn255 (uU hx3) Z) Z ?_;refine aA Z Z ?_;refine aN Z ?_;rcases z9 h0 with ⟨c4,h0⟩|⟨c4,h0⟩;rotate_left
 ·refine zf Z (zR (eN c4)) ?_;refine aS ?_;iterate 2 refine aA rfl rfl ?_
  obtain⟨x33,hx33,h0⟩:=bS h0;refine z6 (zh fn256 (ref05_till_c hx33) Z) Z ?_;refine aA Z Z ?_;refine aN Z ?_;refine aS ?_;iterate 4 refine aA rfl rfl ?_
  refine z6 (OpR.build Z Z Z Z Z) Z ?_;refine aA Z Z ?_;refine zv (OpR.store 1 Z Z Z Z Z Z Z Z) ?_;refine aN Z ?_;refine aS ?_;iterate 2 refine aA rfl rfl ?_
  obtain⟨x34,hx34,h0⟩:=bS h0;refine z6 (zh fn257 (ref05_places_c hx34) Z) Z ?_;refine aA Z Z ?_;refine zv (OpR.store 1 Z Z Z Z Z Z Z Z) ?_;refine aN Z ?_;refine T.seq ?_;refine aS ?_;iterate 2 refine aA rfl rfl ?_
  refine aN Z ?_;obtain⟨t35,ht35,h0⟩:=bS h0;refine zA (fun S'=>S'=⟨[(5,(dP (blk p2))),(4,(dP (blk p1))),(1,(dN a1)),(0,.val (.string (bs a0)))],[.var (blk p1) [dN 0,dN 0,dN 0,.val (.slice none 0 0)] 276,.var (blk p2) [dN a1,dN (w64 (x33-a1)),dN t35,.sl 1 (List.map (eI .i64) x34)] 276],107⟩) (fun _ h=>h) ?_ ?_;rotate_left
  ·rintro _ rfl;show T X _ _ _;refine aS ?_;refine z6 (z7 1 Z Z Z Z) Z ?_;refine zv (OpR.store 0 Z Z Z Z Z Z Z Z) ?_;refine aN Z ?_;refine T.ret ?_;obtain rfl:=osi h0;exact rP [] [4] [0] Z Z Z undef (cV 0 Z Z Z Z ResL.nil) Z Z Z Z
  refine T.block ?_;obtain⟨n37,n42⟩:=zy ht35;refine T.loop (fun n S'=>∃ S'',Gst S' S''∧∃ s36:Int × Int,S''=⟨[(7,(dN s36.1)),(6,(dN x33)),(5,(dP (blk p2))),(4,(dP (blk p1))),(1,(dN a1)),(0,.val (.string (bs a0)))],[.var (blk p1) [dN 0,dN 0,dN 0,.val (.slice none 0 0)] 276,.var (blk p2) [dN a1,dN (w64 (x33-a1)),dN s36.2,.sl 1 (List.map (eI .i64) x34)] 276],107⟩∧wo (yO.l2 a0 x33) n s36=some t35) n37 ?_ ?_
  ·exact⟨_,Gst.only [0,1,4,5,6,7] Z,(a1,0),Z,n42⟩
  rintro n37 _ ⟨_,g,s36,rfl,i41⟩;refine T.ghost g ?_;obtain⟨m38,q39,rfl,q40,i41⟩:=zz i41;unfold yO.l2 at q40;refine T.seq ?_;refine aS ?_;iterate 3 refine aA rfl rfl ?_
  refine aN Z ?_;rcases z9 q40 with ⟨c44,q40⟩|⟨c44,q40⟩;rotate_left
  ·refine ze Z (eF c44) ?_;refine T.exit ?_;obtain rfl:=osi q40;obtain rfl:_=_:=i41;exact⟨_,Gst.only [0,1,4,5] Z,Z⟩
  refine zf Z (eT c44) ?_;refine aK Z ?_;refine T.seq ?_;refine T.block ?_;refine aS ?_;iterate 2 refine aA rfl rfl ?_
  obtain⟨x45,hx45,q40⟩:=bS q40;refine z6 (zh fn255 (uU hx45) Z) Z ?_;refine aN Z ?_;obtain⟨t46,ht46,q40⟩:=bS q40;refine zA (fun S'=>S'=⟨[(7,(dN s36.1)),(6,(dN x33)),(5,(dP (blk p2))),(4,(dP (blk p1))),(1,(dN a1)),(0,.val (.string (bs a0)))],[.var (blk p1) [dN 0,dN 0,dN 0,.val (.slice none 0 0)] 276,.var (blk p2) [dN a1,dN (w64 (x33-a1)),dN t46,.sl 1 (List.map (eI .i64) x34)] 276],107⟩) (fun _ h=>h) ?_ ?_;rotate_left
  ·rintro _ rfl;show T X _ _ _;refine T.region ?_;iterate 3 refine aA rfl rfl ?_
   refine TL.nil ?_;obtain rfl:=osi q40;exact⟨m38,Nat.lt_succ_self _,_,Gst.only [0,1,4,5,6,7] Z,(w64 (s36.1+1),t46),Z,i41⟩
  rcases z9 ht46 with ⟨c47,ht46⟩|⟨c47,ht46⟩;rotate_left
  ·refine ze Z (eN c47) ?_;refine T.skip ?_;obtain rfl:=osi ht46;exact⟨_,Gst.only [0,1,4,5,6,7] Z,Z⟩
  refine zf Z (c47) ?_;refine T.region ?_;refine aA Z Z ?_;refine zv (OpR.store 1 Z Z Z Z Z Z Z Z) ?_;refine TL.nil ?_;obtain rfl:=osi ht46;exact⟨_,Gst.only [0,1,4,5,6,7] Z,Z⟩
 refine ze Z (zQ (c4)) ?_;refine aK Z ?_;refine aS ?_;iterate 3 refine aA rfl rfl ?_
 refine aN Z ?_;refine T.seq ?_;obtain⟨t5,ht5,h0⟩:=bS h0;refine zA (fun S'=>∃ y6:Value,S'=⟨[(8,(dN t5.1)),(5,(dP (blk p2))),(4,(dP (blk p1))),(1,(dN a1)),(0,.val (.string (bs a0)))],[.var (blk p1) [dN 0,dN 0,dN 0,.val (.slice none 0 0)] 276,.var (blk p2) [dN 0,dN 0,dN 0,.val y6] 276,.row y6 (List.map (eI .i64) t5.2) 1 3],107⟩) (fun _ h=>h) ?_ ?_;rotate_left
 ·rintro _ ⟨y6,rfl⟩;show T X _ _ _;refine T.seq ?_;refine aS ?_;iterate 2 refine aA rfl rfl ?_
  refine z6 (zk (OpR.pure Z) (xn (lenS _))) Z ?_;refine aA Z Z ?_;refine aN Z ?_;rcases z9 h0 with ⟨c27,h0⟩|⟨c27,h0⟩
  ·refine zf Z (eT c27) ?_;refine aS ?_;refine aA Z Z ?_;refine zv (OpR.store 1 Z Z Z Z Z Z Z Z) ?_;refine aN Z ?_;refine aS ?_;iterate 2 refine aA rfl rfl ?_
   refine z6 (zk (OpR.pure Z) (xn (lenS _))) Z ?_;iterate 2 refine aA rfl rfl ?_
   refine z6 (OpR.build Z Z Z Z Z) Z ?_;refine aA Z Z ?_;refine zv (OpR.store 1 Z Z Z Z Z Z Z Z) ?_;refine aN Z ?_;refine aS ?_;refine z6 (z7 1 Z Z Z Z) Z ?_;refine zv (OpR.store 0 Z Z Z Z Z Z Z Z) ?_;refine aN Z ?_;refine T.ret ?_;obtain rfl:=osi h0;exact zE (ks:=[]) (Gst.trans (Gst.only [4] Z) (Gst.trans (zC 2 Z Z (ReS.cons Re.refl ReS.nil) (ReO.var (ReL.cons Re.refl (ReL.cons Re.refl (ReL.cons Re.refl (ReL.cons (Re.base .all) ReL.nil)))) (ReO.var (ReL.cons Re.refl (ReL.cons Re.refl (ReL.cons Re.refl (ReL.cons (Re.base .all) ReL.nil)))) (ReO.same ReO.nil)))) (Gst.pick [0] Z Z))) undef (cV 0 Z Z Z Z ResL.nil) Z Z Z Z
  refine ze Z (eF c27) ?_;refine aK Z ?_;refine aS ?_;iterate 3 refine aA rfl rfl ?_
  obtain⟨x28,hx28,h0⟩:=bS h0;refine z6 (zh fn256 (ref05_till_c hx28) Z) Z ?_;refine aA Z Z ?_;refine aN Z ?_;refine aS ?_;refine aA Z Z ?_;refine zv (OpR.store 1 Z Z Z Z Z Z Z Z) ?_;refine aN Z ?_;refine T.seq ?_;refine aS ?_;iterate 4 refine aA rfl rfl ?_
  refine aN Z ?_;obtain⟨t29,ht29,h0⟩:=bS h0;refine zA (fun S'=>S'=⟨[(9,(dN x28)),(8,(dN t5.1)),(5,(dP (blk p2))),(4,(dP (blk p1))),(1,(dN a1))],[.var (blk p1) [dN 0,dN 0,dN 0,.val (.slice none 0 0)] 276,.var (blk p2) [dN 0,dN 0,dN t29,.val y6] 276,.row y6 (List.map (eI .i64) t5.2) 1 3],107⟩) (fun _ h=>h) ?_ ?_
  ·rcases z9 ht29 with ⟨c30,ht29⟩|⟨c30,ht29⟩;rotate_left
   ·refine ze Z (eF c30) ?_;refine T.skip ?_;obtain rfl:=osi ht29;exact⟨_,Gst.only [1,4,5,8,9] Z,Z⟩
   refine zf Z (eT c30) ?_;refine T.region ?_;refine aA Z Z ?_;refine zv (OpR.store 1 Z Z Z Z Z Z Z Z) ?_;refine TL.nil ?_;obtain rfl:=osi ht29;exact⟨_,Gst.only [1,4,5,8,9] Z,Z⟩
  rintro _ rfl;show T X _ _ _;refine aS ?_;refine aA Z Z ?_;refine z6 (z7 1 Z Z Z Z) Z ?_;iterate 3 refine aA rfl rfl ?_
  obtain⟨x31,hx31,h0⟩:=bS h0;refine TL.op (OpR.call [2] fn257 (ref05_places_2_c hx31) Z Z Z (fun _=>Z)) Z (fun w32=>?_);refine aA Z Z ?_;refine zv (OpR.store 1 Z Z Z Z Z Z Z Z) ?_;refine aN Z ?_;refine aS ?_;iterate 4 refine aA rfl rfl ?_
  refine z6 (OpR.build Z Z Z Z Z) Z ?_;refine aA Z Z ?_;refine zv (OpR.store 1 Z Z Z Z Z Z Z Z) ?_;refine aN Z ?_;refine aS ?_;refine z6 (z7 1 Z Z Z Z) Z ?_;refine zv (OpR.store 0 Z Z Z Z Z Z Z Z) ?_;refine aN Z ?_;refine T.ret ?_;obtain rfl:=osi h0;exact zE (ks:=[]) (Gst.trans (Gst.only [4] Z) (Gst.trans (zC 2 Z Z (ReS.cons Re.refl ReS.nil) (ReO.var (ReL.cons Re.refl (ReL.cons Re.refl (ReL.cons Re.refl (ReL.cons (Re.base .all) ReL.nil)))) (ReO.var (ReL.cons Re.refl (ReL.cons Re.refl (ReL.cons Re.refl (ReL.cons (Re.base .all) ReL.nil)))) (ReO.same ReO.nil)))) (Gst.pick [0] Z Z))) undef (cV 0 Z Z Z Z ResL.nil) Z Z Z Z
 refine T.block ?_;obtain⟨n9,n14⟩:=zy ht5;refine T.loop (fun n S'=>∃ S'',Gst S' S''∧∃ y7:Value,∃ s8:Int × (List Int),S''=⟨[(8,(dN s8.1)),(5,(dP (blk p2))),(4,(dP (blk p1))),(1,(dN a1)),(0,.val (.string (bs a0)))],[.var (blk p1) [dN 0,dN 0,dN 0,.val (.slice none 0 0)] 276,.var (blk p2) [dN 0,dN 0,dN 0,.val y7] 276,.row y7 (List.map (eI .i64) s8.2) 1 3],107⟩∧wo (yO.l1 a0) n s8=some t5) n9 ?_ ?_
 ·exact⟨_,Gst.trans (Gst.only [0,1,4,5,8] Z) (ye (ow:=[.var (blk p1) [dN 0,dN 0,dN 0,.val (.slice none 0 0)] 276,.var (blk p2) [dN 0,dN 0,dN 0,.val (.slice none 0 0)] 276]) 1 3 Z),(.slice none 0 0),(w64 (a1+1),[]),Z,n14⟩
 rintro n9 _ ⟨_,g,y7,s8,rfl,i13⟩;refine T.ghost g ?_;obtain⟨m10,q11,rfl,q12,i13⟩:=zz i13;unfold yO.l1 at q12;refine T.seq ?_;refine T.seq ?_;obtain⟨t16,ht16,q12⟩:=bS q12;refine zA (fun S'=>S'=⟨[(56,(dT t16)),(8,(dN s8.1)),(5,(dP (blk p2))),(4,(dP (blk p1))),(1,(dN a1)),(0,.val (.string (bs a0)))],[.var (blk p1) [dN 0,dN 0,dN 0,.val (.slice none 0 0)] 276,.var (blk p2) [dN 0,dN 0,dN 0,.val y7] 276,.row y7 (List.map (eI .i64) s8.2) 1 3],107⟩) (fun _ h=>h) ?_ ?_;rotate_left
 ·rintro _ rfl;show T X _ _ _;rcases z9 q12 with ⟨c21,q12⟩|⟨c21,q12⟩;rotate_left
  ·refine ze Z (eN c21) ?_;refine T.exit ?_;obtain rfl:=osi q12;obtain rfl:_=_:=i13;exact⟨_,Gst.only [0,1,4,5,8] Z,y7,Z⟩
  refine zf Z (c21) ?_;refine aK Z ?_;refine T.block ?_;refine aS ?_;refine aA Z Z ?_;refine z6 (z7 1 Z Z Z Z) Z ?_;refine aA Z Z ?_;refine z6 (yN Z Z Z Z Z Z Z) Z ?_;obtain⟨x22,hx22,q12⟩:=bS q12;refine TL.op (zM (m:=[s8.1]) (eI .i64) 2 hx22 Z Z Z Z Z Z Z Z Z (fun _=>Z)) Z (fun v23=>?_);refine aA Z Z ?_;refine zv (OpR.store 1 Z Z Z Z Z Z Z Z) ?_;refine aN Z ?_;refine T.seq ?_;refine aS ?_;iterate 2 refine aA rfl rfl ?_
  obtain⟨x24,hx24,q12⟩:=bS q12;refine z6 (zh fn255 (uU hx24) Z) Z ?_;refine aN Z ?_;obtain⟨t25,ht25,q12⟩:=bS q12;refine zA (fun S'=>S'=⟨[(8,(dN t25)),(5,(dP (blk p2))),(4,(dP (blk p1))),(1,(dN a1)),(0,.val (.string (bs a0)))],[.var (blk p1) [dN 0,dN 0,dN 0,.val (.slice none 0 0)] 276,.var (blk p2) [dN 0,dN 0,dN 0,.val v23] 276,.row v23 (List.map (eI .i64) x22) 1 3],107⟩) (fun _ h=>h) ?_ ?_;rotate_left
  ·rintro _ rfl;show T X _ _ _;refine T.region ?_;iterate 3 refine aA rfl rfl ?_
   refine TL.nil ?_;obtain rfl:=osi q12;exact⟨m10,Nat.lt_succ_self _,_,Gst.only [0,1,4,5,8] Z,v23,(w64 (t25+1),x22),Z,i13⟩
  rcases z9 ht25 with ⟨c26,ht25⟩|⟨c26,ht25⟩;rotate_left
  ·refine ze Z (eN c26) ?_;refine T.skip ?_;obtain rfl:=osi ht25;exact⟨_,Gst.only [0,1,4,5,8] Z,Z⟩
  refine zf Z (c26) ?_;refine T.region ?_;iterate 3 refine aA rfl rfl ?_
  refine TL.nil ?_;obtain rfl:=osi ht25;exact⟨_,Gst.only [0,1,4,5,8] Z,Z⟩
 refine T.region ?_;iterate 2 refine aA rfl rfl ?_
 refine z6 (zk (OpR.pure Z) (xn (lenS _))) Z ?_;iterate 2 refine aA rfl rfl ?_
 rcases z9 ht16 with ⟨c17,ht16⟩|⟨c17,ht16⟩;rotate_left
 ·refine TL.off Z Z Z Z (eF c17) Z Z ?_;refine TL.off Z Z Z Z (eF c17) Z Z ?_;refine TL.off Z Z Z Z (eF c17) Z Z ?_;refine TL.off Z Z Z Z (eF c17) Z Z ?_;refine TL.off Z Z Z Z (eF c17) Z Z ?_;refine sQ Z Z Z Z Z Z ?_;refine sQ Z Z Z Z Z Z ?_;refine sQ Z Z Z Z Z Z ?_;refine sQ Z Z Z Z Z Z ?_;refine TL.off Z Z Z Z (eF c17) Z Z ?_;refine z6 (zx Z (eF c17) Z) Z ?_;refine TL.nil ?_;obtain rfl:=osi ht16;exact⟨_,Gst.only [0,1,4,5,8,56] Z,Z⟩
 refine TL.on Z Z Z Z (eT c17) ?_;refine aA Z Z ?_;refine TL.on Z Z Z Z (eT c17) ?_;refine aA Z Z ?_;refine TL.on Z Z Z Z (eT c17) ?_;obtain⟨x18,hx18,ht16⟩:=bS ht16;refine z6 (zh fn255 (uU hx18) Z) Z ?_;refine TL.on Z Z Z Z (eT c17) ?_;refine aA Z Z ?_;refine TL.on Z Z Z Z (eT c17) ?_;refine aA Z Z ?_;rcases z9 ht16 with ⟨c19,ht16⟩|⟨c19,ht16⟩;rotate_left
 ·refine TL.off Z Z Z Z (zR (eN c19)) Z Z ?_;refine TL.off Z Z Z Z (zR (eN c19)) Z Z ?_;refine TL.off Z Z Z Z (zR (eN c19)) Z Z ?_;refine TL.off Z Z Z Z (zR (eN c19)) Z Z ?_;refine TL.on Z Z Z Z (eT c17) ?_;refine z6 (zt Z (zR (eN c19)) Z) Z ?_;refine z6 (zt Z (eT c17) Z) Z ?_;refine TL.nil ?_;obtain rfl:=osi ht16;exact⟨_,Gst.only [0,1,4,5,8,56] Z,Z⟩
 refine TL.on Z Z Z Z (zQ (c19)) ?_;refine aA Z Z ?_;refine TL.on Z Z Z Z (zQ (c19)) ?_;refine aA Z Z ?_;refine TL.on Z Z Z Z (zQ (c19)) ?_;refine aA Z Z ?_;refine TL.on Z Z Z Z (zQ (c19)) ?_;obtain⟨x20,hx20,ht16⟩:=bS ht16;refine z6 (zh fn255 (uU hx20) Z) Z ?_;refine TL.on Z Z Z Z (eT c17) ?_;refine z6 (zx Z (zQ (c19)) Z) Z ?_;refine z6 (zt Z (eT c17) Z) Z ?_;refine TL.nil ?_;obtain rfl:=osi ht16;exact⟨_,Gst.only [0,1,4,5,8,56] Z,Z⟩
end Go.Proofs.YtpmhiiemklhbhaaGreat.S
