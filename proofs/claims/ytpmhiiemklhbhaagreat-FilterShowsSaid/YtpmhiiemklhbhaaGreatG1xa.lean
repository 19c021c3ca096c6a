import Derived.Test.YtpmhiiemklhbhaaGreatG0
set_option maxHeartbeats 4000000
set_option linter.unusedVariables false
set_option linter.unusedSimpArgs false
set_option maxRecDepth 20000
namespace Go.Proofs.YtpmhiiemklhbhaaGreat.S
open Go Go.Sm
attribute [local irreducible] T TL OpR CallT iter loop
noncomputable def law11_Cut (a0:List UInt8) (a1:Int):Option (List UInt8):=
 if (a0.length:Int)>a1 then
 bnd (cut a0 0 a1) fun x2=>
 some x2
else
 some a0
theorem law11_Cut_c {a0:List UInt8} {a1:Int} {res:(List UInt8)} (h0:law11_Cut a0 a1=some res):CallF X 15 [.val (.string (bs a0)),dN a1] [] (fun x=>.val (.string (bs res))) (fun x=>[]):=by
 unfold law11_Cut at h0;refine CallF.mkG (X:=X) rfl Tryz.func15 rfl rfl Tryz.ntmps15 rfl rfl ?_;refine aS ?_;refine aA rfl rfl ?_;refine aN rfl ?_;refine T.seq ?_;refine aS ?_;refine aA rfl rfl ?_;refine TL.op1 (OpR.cast (OpR.pure rfl) (intE (lenS _))) rfl ?_;iterate 2 refine aA rfl rfl ?_
 refine aN rfl ?_;rcases ite_some h0 with ⟨c1,h0⟩|⟨c1,h0⟩;rotate_left
 ·refine T.condF rfl (eF c1) ?_;refine aK rfl ?_;refine aS ?_;iterate 2 refine aA rfl rfl ?_
  refine aN rfl ?_;refine T.ret ?_;obtain rfl:=osi h0;exact rO [] [4] rfl undef (cT rfl ResL.nil) rfl rfl rfl rfl
 refine T.condT rfl (eT c1) ?_;refine aS ?_;iterate 2 refine aA rfl rfl ?_
 obtain⟨x2,hx2,h0⟩:=bS h0;refine TL.op1 (OpR.sliceS hx2 rfl rfl rfl BdM.none (BdM.some rfl)) rfl ?_;refine aA rfl rfl ?_;refine aN rfl ?_;refine T.ret ?_;obtain rfl:=osi h0;exact rO [] [4] rfl undef (cT rfl ResL.nil) rfl rfl rfl rfl
noncomputable def arena_New (a0:List UInt8):Option (Int ⊕ (Int × (List UInt8))):=
 if (a0.length:Int)>4096 then
 some (Sum.inl 8)
else
 bnd (mkz 1 (a0.length:Int) (0:UInt8)) fun x2=>
 some (Sum.inr (0,(over x2 a0)))
theorem arena_New_c {a0:List UInt8} {res:Int ⊕ (Int × (List UInt8))} (h0:arena_New a0=some res):CallF X 128 [.sl 1 (lB a0)] [] (fun x=>(match res with | .inl res=>.tup [dQ,dN res] | .inr res=>.tup [dP (blk (vn x 0)),dN res.1])) (fun x=>(match res with | .inl res=>[] | .inr res=>[.var (blk (vn x 0)) [.val (vn x 1)] 264,.row (vn x 1) (lB res.2) 1 5])):=by
 unfold arena_New at h0;refine CallF.mkG (X:=X) rfl Tryz.func128 rfl rfl Tryz.ntmps128 rfl rfl ?_;refine aS ?_;iterate 2 refine aA rfl rfl ?_
 refine aN rfl ?_;refine T.seq ?_;refine aS ?_;refine aA rfl rfl ?_;refine TL.op1 (OpR.cast (OpR.pure rfl) (intE (lenM _ _))) rfl ?_;refine aA rfl rfl ?_;refine aN rfl ?_;rcases ite_some h0 with ⟨c1,h0⟩|⟨c1,h0⟩
 ·refine T.condT rfl (eT c1) ?_;refine aS ?_;iterate 2 refine aA rfl rfl ?_
  refine aN rfl ?_;refine T.ret ?_;obtain rfl:=osi h0;exact rO [] [2,3] rfl undef (cT rfl (cT rfl ResL.nil)) rfl rfl rfl rfl
 refine T.condF rfl (eF c1) ?_;refine aK rfl ?_;refine aS ?_;refine aA rfl rfl ?_;refine TL.op1 (OpR.cast (OpR.pure rfl) (intE (lenM _ _))) rfl ?_;obtain⟨x2,hx2,h0⟩:=bS h0;refine TL.op (OpR.makeM byteD hx2 rfl rfl rfl rfl rfl rfl rfl rfl rfl rfl rfl (fun _=>rfl)) rfl (fun v3=>?_);refine TL.op1 (OpR.build rfl rfl rfl rfl rfl) rfl ?_;refine TL.op (OpR.boxVar rfl rfl (fun _=>rfl)) rfl (fun p4=>?_);refine aA rfl rfl ?_;refine aN rfl ?_;refine aS ?_;iterate 3 refine aA rfl rfl ?_
 refine TL.op1 (OpR.loadPtr 1 rfl rfl rfl rfl) rfl ?_;refine aA rfl rfl ?_;refine TL.op1 (OpR.copyM byteD 0 rfl rfl rfl rfl rfl rfl rfl rfl) rfl ?_;refine aN rfl ?_;refine aS ?_;iterate 3 refine aA rfl rfl ?_
 refine aN rfl ?_;refine T.ret ?_;obtain rfl:=osi h0;exact rP [0,1] [2,3] [1,0] rfl rfl rfl (.tuple #[p4,v3]) (cT rfl (cT rfl ResL.nil)) rfl rfl rfl rfl
theorem arena_New_cx1 {a0:List UInt8} {res:Int} (h0:arena_New a0=some (Sum.inl res)):CallF X 128 [.sl 1 (lB a0)] [] (fun x=>.tup [dQ,dN res]) (fun x=>[]):=arena_New_c h0
theorem arena_New_cx2 {a0:List UInt8} {res:Int × (List UInt8)} (h0:arena_New a0=some (Sum.inr res)):CallF X 128 [.sl 1 (lB a0)] [] (fun x=>.tup [dP (blk (vn x 0)),dN res.1]) (fun x=>[.var (blk (vn x 0)) [.val (vn x 1)] 264,.row (vn x 1) (lB res.2) 1 5]):=arena_New_c h0
noncomputable def scan_reader_done (a0:List UInt8) (a1:Int):Option Bool:=
 some (decide (a1≥(a0.length:Int)))
theorem scan_reader_done_c {a0:List UInt8} {a1:Int} {b0:Nat} {res:Bool} (h0:scan_reader_done a0 a1=some res):CallF X 192 [dP b0] [.var b0 [.sl 1 (lB a0),dN a1] 267] (fun x=>(dT res)) (fun x=>[.var b0 [.sl 1 (lB a0),dN a1] 267]):=by
 unfold scan_reader_done at h0;refine CallF.mkG (X:=X) rfl Tryz.func192 rfl rfl Tryz.ntmps192 rfl rfl ?_;refine aS ?_;refine aA rfl rfl ?_;refine aN rfl ?_;refine T.seq ?_;refine T.drawQ drawsX [dP b0,dP b0,.val (.pointer (some ⟨b0,1,none⟩)),dN a1,dP b0,dP b0,dP b0,.sl 1 (lB a0),dN (a0.length:Int),dT (decide (a1≥(a0.length:Int))),dT (decide (a1≥(a0.length:Int)))] [2] (by decide +kernel) rfl ?_ rfl ?_;rotate_left
 ·show T X _ _ _;refine T.ret ?_;obtain rfl:=osi h0;exact rO [0] [2] rfl undef (cT rfl ResL.nil) rfl rfl rfl rfl
 iterate 3 refine aB rfl rfl rfl ?_
 refine OpsQ.yes (Want.plain rfl) rfl (OpR.loadPtr 0 rfl rfl rfl rfl) ?_;iterate 3 refine aB rfl rfl rfl ?_
 refine OpsQ.yes (Want.plain rfl) rfl (OpR.loadPtr 0 rfl rfl rfl rfl) ?_;refine OpsQ.yes (Want.plain rfl) rfl (OpR.cast (OpR.pure rfl) (intE (lenM _ _))) ?_;iterate 2 refine aB rfl rfl rfl ?_
 exact OpsQ.nil
noncomputable def scan_reader_is (a0:UInt8) (a1:List UInt8) (a2:Int):Option Bool:=
 bnd (bnd (scan_reader_done a1 a2) fun x3=>
 if x3=true then
 some false
else
 bnd (idx a1 a2) fun x5=>
 some ((x5.toNat:Int)==(a0.toNat:Int)):Option Bool) fun t1=>
 some t1
theorem scan_reader_is_c {a0:UInt8} {a1:List UInt8} {a2:Int} {b0:Nat} {res:Bool} (h0:scan_reader_is a0 a1 a2=some res):CallF X 226 [dP b0,.val (.int .u8 (a0.toNat:Int))] [.var b0 [.sl 1 (lB a1),dN a2] 267] (fun x=>(dT res)) (fun x=>[.var b0 [.sl 1 (lB a1),dN a2] 267]):=by
 unfold scan_reader_is at h0;refine CallF.mkG (X:=X) rfl Tryz.func226 rfl rfl Tryz.ntmps226 rfl rfl ?_;refine aS ?_;refine aA rfl rfl ?_;refine aN rfl ?_;refine T.seq ?_;obtain⟨t1,ht1,h0⟩:=bS h0;refine T.cutC (fun S'=>S'=⟨[(4,(dT t1))],[.var b0 [.sl 1 (lB a1),dN a2] 267],22⟩) (fun _ h=>h) ?_ ?_;rotate_left
 ·rintro _ rfl;show T X _ _ _;refine T.ret ?_;obtain rfl:=osi h0;exact rO [0] [4] rfl undef (cT rfl ResL.nil) rfl rfl rfl rfl
 obtain⟨x3,hx3,ht1⟩:=bS ht1;rcases ite_some ht1 with ⟨c4,ht1⟩|⟨c4,ht1⟩
 ·refine T.drawQ drawsX [dP b0,dT x3,dT (!x3),dT (!x3),.tup [],.tup [],.tup [],.tup [],.tup [],.tup [],.tup [],.tup [],.tup [],.tup [],.tup [],.tup [],dT false,dT false] [4] (by decide +kernel) rfl ?_ rfl ?_;rotate_left
  ·obtain rfl:=osi ht1;exact⟨_,Gst.only [4] rfl,rfl⟩
  refine aB rfl rfl rfl ?_;refine OpsQ.yes (Want.plain rfl) rfl (OpR.call [0] fn192 (scan_reader_done_c hx3) rfl rfl rfl (fun _=>rfl)) ?_;iterate 2 refine aB rfl rfl rfl ?_
  refine OpsQ.no (Want.bool rfl rfl rfl rfl (by rw[(not_t (c4))]; rfl)) rfl ?_;refine OpsQ.no (Want.bool rfl rfl rfl rfl (by rw[(not_t (c4))]; rfl)) rfl ?_;refine OpsQ.no (Want.bool rfl rfl rfl rfl (by rw[(not_t (c4))]; rfl)) rfl ?_;refine OpsQ.no (Want.bool rfl rfl rfl rfl (by rw[(not_t (c4))]; rfl)) rfl ?_;refine OpsQ.no (Want.bool rfl rfl rfl rfl (by rw[(not_t (c4))]; rfl)) rfl ?_;refine OpsQ.no (Want.bool rfl rfl rfl rfl (by rw[(not_t (c4))]; rfl)) rfl ?_;refine OpsQ.no (Want.bool rfl rfl rfl rfl (by rw[(not_t (c4))]; rfl)) rfl ?_;refine OpsQ.no (Want.bool rfl rfl rfl rfl (by rw[(not_t (c4))]; rfl)) rfl ?_;refine OpsQ.no (Want.bool rfl rfl rfl rfl (by rw[(not_t (c4))]; rfl)) rfl ?_;refine OpsQ.no (Want.bool rfl rfl rfl rfl (by rw[(not_t (c4))]; rfl)) rfl ?_;refine OpsQ.no (Want.bool rfl rfl rfl rfl (by rw[(not_t (c4))]; rfl)) rfl ?_;refine OpsQ.no (Want.bool rfl rfl rfl rfl (by rw[(not_t (c4))]; rfl)) rfl ?_;refine OpsQ.yes (Want.plain rfl) rfl (OpR.pickF rfl (not_t (c4)) rfl) ?_;refine aB rfl rfl rfl ?_;exact OpsQ.nil
 obtain⟨x5,hx5,ht1⟩:=bS ht1;refine T.drawQ drawsX [dP b0,dT x3,dT (!x3),dT (!x3),dP b0,dP b0,dP b0,.sl 1 (lB a1),dP b0,dP b0,.val (.pointer (some ⟨b0,1,none⟩)),dN a2,.nod [.val (.int .u8 (x5.toNat:Int))],.val (.int .u8 (x5.toNat:Int)),.val (.int .u8 (a0.toNat:Int)),dT ((x5.toNat:Int)==(a0.toNat:Int)),dT ((x5.toNat:Int)==(a0.toNat:Int)),dT ((x5.toNat:Int)==(a0.toNat:Int))] [4] (by decide +kernel) rfl ?_ rfl ?_;rotate_left
 ·obtain rfl:=osi ht1;exact⟨_,Gst.only [4] rfl,rfl⟩
 refine aB rfl rfl rfl ?_;refine OpsQ.yes (Want.plain rfl) rfl (OpR.call [0] fn192 (scan_reader_done_c hx3) rfl rfl rfl (fun _=>rfl)) ?_;iterate 2 refine aB rfl rfl rfl ?_
 refine OpsQ.yes (Want.bool rfl rfl rfl rfl (by rw[(not_f (eq_false_of_ne_true c4))]; rfl)) rfl (OpR.pure rfl) ?_;refine OpsQ.yes (Want.bool rfl rfl rfl rfl (by rw[(not_f (eq_false_of_ne_true c4))]; rfl)) rfl (OpR.pure rfl) ?_;refine OpsQ.yes (Want.bool rfl rfl rfl rfl (by rw[(not_f (eq_false_of_ne_true c4))]; rfl)) rfl (OpR.pure rfl) ?_;refine OpsQ.yes (Want.bool rfl rfl rfl rfl (by rw[(not_f (eq_false_of_ne_true c4))]; rfl)) rfl (OpR.loadPtr 0 rfl rfl rfl rfl) ?_;refine OpsQ.yes (Want.bool rfl rfl rfl rfl (by rw[(not_f (eq_false_of_ne_true c4))]; rfl)) rfl (OpR.pure rfl) ?_;refine OpsQ.yes (Want.bool rfl rfl rfl rfl (by rw[(not_f (eq_false_of_ne_true c4))]; rfl)) rfl (OpR.pure rfl) ?_;refine OpsQ.yes (Want.bool rfl rfl rfl rfl (by rw[(not_f (eq_false_of_ne_true c4))]; rfl)) rfl (OpR.pure rfl) ?_;refine OpsQ.yes (Want.bool rfl rfl rfl rfl (by rw[(not_f (eq_false_of_ne_true c4))]; rfl)) rfl (OpR.loadPtr 0 rfl rfl rfl rfl) ?_;refine OpsQ.yes (Want.bool rfl rfl rfl rfl (by rw[(not_f (eq_false_of_ne_true c4))]; rfl)) rfl (OpR.indexM byteD hx5 rfl rfl rfl rfl rfl) ?_;refine OpsQ.yes (Want.bool rfl rfl rfl rfl (by rw[(not_f (eq_false_of_ne_true c4))]; rfl)) rfl (OpR.pure rfl) ?_;refine OpsQ.yes (Want.bool rfl rfl rfl rfl (by rw[(not_f (eq_false_of_ne_true c4))]; rfl)) rfl (OpR.pure rfl) ?_;refine OpsQ.yes (Want.bool rfl rfl rfl rfl (by rw[(not_f (eq_false_of_ne_true c4))]; rfl)) rfl (OpR.pure rfl) ?_;refine OpsQ.yes (Want.plain rfl) rfl (OpR.pickT rfl (not_f (eq_false_of_ne_true c4)) rfl) ?_;refine aB rfl rfl rfl ?_;exact OpsQ.nil
noncomputable def arena_Join (a0:arena_Span) (a1:arena_Span):Option (arena_Span × Bool):=
 bnd (if a0.fN<0 then
 some true
else
 if a1.fN<0 then
 some true
else
 some (!(a1==(⟨w64 (a0.fAt+a0.fN),a1.fN⟩:arena_Span))):Option Bool) fun t2=>
 if t2=true then
 some ((⟨0,0⟩:arena_Span),false)
else
 some ((⟨a0.fAt,w64 (a0.fN+a1.fN)⟩:arena_Span),true)
theorem arena_Join_c {a0:arena_Span} {a1:arena_Span} {res:arena_Span × Bool} (h0:arena_Join a0 a1=some res):CallF X 271 [.agg [dN a0.fAt,dN a0.fN],.agg [dN a1.fAt,dN a1.fN]] [] (fun x=>.tup [.agg [dN res.1.fAt,dN res.1.fN],dT res.2]) (fun x=>[]):=by
 unfold arena_Join at h0;refine CallF.mkG (X:=X) rfl Tryz.func271 rfl rfl Tryz.ntmps271 rfl rfl ?_;refine aS ?_;refine TL.op1 (OpR.boxImm rfl rfl) rfl ?_;refine TL.op1 (OpR.boxImm rfl rfl) rfl ?_;refine TL.op (OpR.alloc rfl rfl (fun _=>rfl)) rfl (fun p1=>?_);refine aA rfl rfl ?_;refine aN rfl ?_;refine T.seq ?_;refine T.seq ?_;obtain⟨t2,ht2,h0⟩:=bS h0;refine T.cutC (fun S'=>S'=⟨[(25,(dT t2)),(5,(dT false)),(4,(dP (blk p1))),(3,.nod [dN a1.fAt,dN a1.fN]),(2,.nod [dN a0.fAt,dN a0.fN])],[.var (blk p1) [dN 0,dN 0] 142],35⟩) (fun _ h=>h) ?_ ?_;rotate_left
 ·rintro _ rfl;show T X _ _ _;rcases ite_some h0 with ⟨c5,h0⟩|⟨c5,h0⟩
  ·refine T.condT rfl (c5) ?_;refine aS ?_;refine TL.op1 (OpR.build rfl rfl rfl rfl rfl) rfl ?_;refine TL.op0 (OpR.store 0 rfl rfl rfl rfl rfl rfl rfl rfl) ?_;refine aA rfl rfl ?_;refine aN rfl ?_;refine T.ret ?_;obtain rfl:=osi h0;exact rO [] [4,5] rfl undef (cV 0 rfl rfl rfl rfl (cT rfl ResL.nil)) rfl rfl rfl rfl
  refine T.condF rfl (eq_false_of_ne_true c5) ?_;refine aK rfl ?_;refine aS ?_;iterate 7 refine aA rfl rfl ?_
  refine TL.op1 (OpR.build rfl rfl rfl rfl rfl) rfl ?_;refine TL.op0 (OpR.store 0 rfl rfl rfl rfl rfl rfl rfl rfl) ?_;refine aA rfl rfl ?_;refine aN rfl ?_;refine T.ret ?_;obtain rfl:=osi h0;exact rO [] [4,5] rfl undef (cV 0 rfl rfl rfl rfl (cT rfl ResL.nil)) rfl rfl rfl rfl
 refine T.region ?_;iterate 4 refine aA rfl rfl ?_
 rcases ite_some ht2 with ⟨c3,ht2⟩|⟨c3,ht2⟩
 ·refine TL.off rfl rfl rfl rfl (eT c3) rfl rfl ?_;refine TL.off rfl rfl rfl rfl (eT c3) rfl rfl ?_;refine TL.off rfl rfl rfl rfl (eT c3) rfl rfl ?_;refine TL.op1 (OpR.pickT rfl (eT c3) rfl) rfl ?_;refine aA rfl rfl ?_;refine TL.off rfl rfl rfl rfl rfl rfl rfl ?_;refine TL.off rfl rfl rfl rfl rfl rfl rfl ?_;refine TL.off rfl rfl rfl rfl rfl rfl rfl ?_;refine TL.off rfl rfl rfl rfl rfl rfl rfl ?_;refine TL.off rfl rfl rfl rfl rfl rfl rfl ?_;refine TL.off rfl rfl rfl rfl rfl rfl rfl ?_;refine TL.off rfl rfl rfl rfl rfl rfl rfl ?_;refine TL.off rfl rfl rfl rfl rfl rfl rfl ?_;refine TL.off rfl rfl rfl rfl rfl rfl rfl ?_;refine TL.off rfl rfl rfl rfl rfl rfl rfl ?_;refine TL.op1 (OpR.pickT rfl rfl rfl) rfl ?_;refine TL.nil ?_;obtain rfl:=osi ht2;exact⟨_,Gst.only [2,3,4,5,25] rfl,rfl⟩
 refine TL.on rfl rfl rfl rfl (eF c3) ?_;refine aA rfl rfl ?_;refine TL.on rfl rfl rfl rfl (eF c3) ?_;refine aA rfl rfl ?_;refine TL.on rfl rfl rfl rfl (eF c3) ?_;refine aA rfl rfl ?_;refine TL.op1 (OpR.pickF rfl (eF c3) rfl) rfl ?_;refine aA rfl rfl ?_;rcases ite_some ht2 with ⟨c4,ht2⟩|⟨c4,ht2⟩
 ·refine TL.off rfl rfl rfl rfl (eT c4) rfl rfl ?_;refine TL.off rfl rfl rfl rfl (eT c4) rfl rfl ?_;refine TL.off rfl rfl rfl rfl (eT c4) rfl rfl ?_;refine TL.off rfl rfl rfl rfl (eT c4) rfl rfl ?_;refine TL.off rfl rfl rfl rfl (eT c4) rfl rfl ?_;refine TL.off rfl rfl rfl rfl (eT c4) rfl rfl ?_;refine TL.off rfl rfl rfl rfl (eT c4) rfl rfl ?_;refine TL.off rfl rfl rfl rfl (eT c4) rfl rfl ?_;refine TL.off rfl rfl rfl rfl (eT c4) rfl rfl ?_;refine TL.off rfl rfl rfl rfl (eT c4) rfl rfl ?_;refine TL.op1 (OpR.pickT rfl (eT c4) rfl) rfl ?_;refine TL.nil ?_;obtain rfl:=osi ht2;exact⟨_,Gst.only [2,3,4,5,25] rfl,rfl⟩
 refine TL.on rfl rfl rfl rfl (eF c4) ?_;refine aA rfl rfl ?_;refine TL.on rfl rfl rfl rfl (eF c4) ?_;refine aA rfl rfl ?_;refine TL.on rfl rfl rfl rfl (eF c4) ?_;refine aA rfl rfl ?_;refine TL.on rfl rfl rfl rfl (eF c4) ?_;refine aA rfl rfl ?_;refine TL.on rfl rfl rfl rfl (eF c4) ?_;refine aA rfl rfl ?_;refine TL.on rfl rfl rfl rfl (eF c4) ?_;refine aA rfl rfl ?_;refine TL.on rfl rfl rfl rfl (eF c4) ?_;refine aA rfl rfl ?_;refine TL.on rfl rfl rfl rfl (eF c4) ?_;refine aA rfl rfl ?_;refine TL.on rfl rfl rfl rfl (eF c4) ?_;refine TL.op1 (OpR.build rfl rfl rfl rfl rfl) rfl ?_;refine TL.on rfl rfl rfl rfl (eF c4) ?_;refine TL.op1 (OpR.cast (OpR.neStruct rfl rfl rfl rfl rfl (by kernel_rfl) (by kernel_rfl)) (boolE (congrArg (fun b=>!b) (beq_arena_Span a1 (⟨w64 (a0.fAt+a0.fN),a1.fN⟩:arena_Span))))) rfl ?_;refine TL.op1 (OpR.pickF rfl (eF c4) rfl) rfl ?_;refine TL.nil ?_;obtain rfl:=osi ht2;exact⟨_,Gst.only [2,3,4,5,25] rfl,rfl⟩
noncomputable def scan_parts_add_2 (a0:Int) (a1:Int) (a2:List arena_Span):Option (List arena_Span):=
 if a1≤a0 then
 some a2
else
 bnd (if (w64 ((a2.length:Int)-1))≥0 then
 bnd (idx a2 (w64 ((a2.length:Int)-1))) fun x7=>
 bnd (arena_Join x7 (⟨a0,w64 (a1-a0)⟩:arena_Span)) fun x8=>
 if x8.2=true then
 some (Ex.ret (a2.set (w64 ((a2.length:Int)-1)).toNat x8.1))
else
 some (Ex.brk ())
else
 some (Ex.brk ()):Option (Ex Unit (List arena_Span))) fun t3=>match t3 with
| .brk u4=>
 bnd (app 16 a2 [(⟨a0,w64 (a1-a0)⟩:arena_Span)]) fun x12=>
 some x12
| .ret u4=>some u4
theorem scan_parts_add_2_c {a0:Int} {a1:Int} {a2:List arena_Span} {b0:Nat} {v1:Value} {res:(List arena_Span)} (h0:scan_parts_add_2 a0 a1 a2=some res):CallF X 269 [dP b0,dN a0,dN a1] [.var b0 [.val v1] 359,.row v1 (List.map e_arena_Span a2) 2 142] (fun x=>.tup []) (fun x=>[.var b0 [.val (vn x 0)] 359,.row (vn x 0) (List.map e_arena_Span res) 2 142]):=by
 unfold scan_parts_add_2 at h0;refine CallF.mkG (X:=X) rfl Tryz.func269 rfl rfl Tryz.ntmps269 rfl rfl ?_;refine T.seq ?_;refine aS ?_;iterate 3 refine aA rfl rfl ?_
 refine aN rfl ?_;rcases ite_some h0 with ⟨c1,h0⟩|⟨c1,h0⟩
 ·refine T.condT rfl (eT c1) ?_;refine T.ret ?_;obtain rfl:=osi h0;exact rO [0,1] [] rfl (.tuple #[v1]) ResL.nil rfl rfl rfl rfl
 refine T.condF rfl (eF c1) ?_;refine aK rfl ?_;refine aS ?_;iterate 4 refine aA rfl rfl ?_
 refine TL.op1 (OpR.build rfl rfl rfl rfl rfl) rfl ?_;refine TL.op (OpR.alloc rfl rfl (fun _=>rfl)) rfl (fun p2=>?_);refine TL.op0 (OpR.store 2 rfl rfl rfl rfl rfl rfl rfl rfl) ?_;refine aN rfl ?_;refine T.seq ?_;refine aS ?_;iterate 2 refine aA rfl rfl ?_
 refine TL.op1 (OpR.loadPtr 0 rfl rfl rfl rfl) rfl ?_;refine TL.op1 (OpR.rowLenM e_arena_Span 1 rfl rfl rfl rfl) rfl ?_;iterate 2 refine aA rfl rfl ?_
 refine aN rfl ?_;refine aS ?_;iterate 2 refine aA rfl rfl ?_
 refine aN rfl ?_;obtain⟨t3,ht3,h0⟩:=bS h0;refine T.cutC (fun S'=>∃ u4,t3=Ex.brk u4∧S'=⟨[(6,(dP (blk p2))),(0,(dP b0))],[.var b0 [.val v1] 359,.row v1 (List.map e_arena_Span a2) 2 142,.var (blk p2) [dN a0,dN (w64 (a1-a0))] 142],51⟩) (fun _ h=>h) ?_ ?_;rotate_left
 ·rintro _ ⟨u4,rfl,rfl⟩;show T X _ _ _;obtain⟨x12,hx12,h0⟩:=bS h0;refine T.drawS drawsX (fun env11=>[dP b0,dP b0,dP b0,.val v1,.agg [dN a0,dN (w64 (a1-a0))],.sl 2 (List.map e_arena_Span [(⟨a0,w64 (a1-a0)⟩:arena_Span)]),.val (env11 6),dP b0,.dead]) (fun D env11=>[(bif D 8 then .var b0 [.val (env11 6)] 359 else .var b0 [.val v1] 359),(bif D 6 then .row (env11 6) (List.map e_arena_Span x12) 2 142 else .row v1 (List.map e_arena_Span a2) 2 142),.var (blk p2) [dN a0,dN (w64 (a1-a0))] 142]) [0,0,2,6,0,16,62,127,255] [] _ (by decide +kernel) (by decide +kernel) (fun _=>rfl) (fun _=>rfl) ?_ (fun _=>rfl) (fun _=>rfl) ?_;rotate_left
  ·intro env11;obtain rfl:=osi h0;exact PostG.finP (ks:=[0,1]) (gP [] [0,1] rfl rfl rfl) (.tuple #[(env11 6)]) ResL.nil rfl rfl rfl rfl
  iterate 3 refine aC ?_
  refine OpsS.cons' true ?_ (fun _ _ _ _ _ _ _=>rfl) ?_
  ·intro D env11 hA;have e6:D 6=false:=hA.no 6 _ rfl rfl;have e8:D 8=false:=hA.no 8 _ rfl rfl;exact OpS.yp [(6,false),(8,false)] ⟨e6,e8,trivial⟩ (Want.plain rfl) (OpR.loadPtr 0 rfl rfl rfl rfl) (fun x=>rfl) (fun x=>rfl)
  refine oT (.agg [dN a0,dN (w64 (a1-a0))]) (fun _ _=>OpR.loadPtr 2 rfl rfl rfl rfl) ?_;refine oT (.sl 2 (List.map e_arena_Span [(⟨a0,w64 (a1-a0)⟩:arena_Span)])) (fun _ _=>OpR.lit rfl rfl rfl rfl rfl rfl rfl) ?_;refine OpsS.cons' true ?_ (fun D hA env11 x j hj hD=>match j,hj,hD with|0,_,_=>rfl|1,_,_=>rfl|2,_,_=>rfl|3,_,_=>rfl|4,_,_=>rfl|5,_,_=>rfl|6,hj,_=>absurd rfl hj|7,_,_=>rfl|8,_,_=>rfl|_+9,_,_=>rfl) ?_
  ·intro D env11 hA;have e8:D 8=false:=hA.no 8 _ rfl rfl;exact OpS.yp [(8,false),(6,false)] ⟨e8,hA.me,trivial⟩ (Want.plain rfl) (OpR.appendM (m:=[(⟨a0,w64 (a1-a0)⟩:arena_Span)]) e_arena_Span 1 hx12 rfl rfl rfl rfl rfl rfl rfl rfl rfl (fun _=>rfl)) (fun x=>rfl) (fun x=>rfl)
  refine aC ?_;refine OpsS.cons' true ?_ (fun _ _ _ _ _ _ _=>rfl) ?_
  ·intro D env11 hA;have e6:D 6=true:=hA.yes 6 _ rfl rfl;exact OpS.yp [(6,true),(8,false)] ⟨e6,hA.me,trivial⟩ (Want.plain rfl) (OpR.store 0 rfl rfl rfl rfl rfl rfl rfl rfl) (fun x=>rfl) (fun x=>rfl)
  exact trivial
 rcases ite_some ht3 with ⟨c5,ht3⟩|⟨c5,ht3⟩;rotate_left
 ·refine T.condF rfl (eF c5) ?_;refine T.skip ?_;obtain rfl:=osi ht3;exact⟨_,Gst.only [0,6] rfl,_,rfl,rfl⟩
 refine T.condT rfl (eT c5) ?_;refine T.seq ?_;obtain⟨x7,hx7,ht3⟩:=bS ht3;obtain⟨x8,hx8,ht3⟩:=bS ht3;refine T.drawS drawsX (fun env6=>[dP b0,dP b0,.val v1,dN (w64 ((a2.length:Int)-1)),.val (.pointer (some ⟨blk v1,(w64 ((a2.length:Int)-1)).toNat*2,none⟩)),.agg [dN x7.fAt,dN x7.fN],.agg [dN a0,dN (w64 (a1-a0))],.tup [.agg [dN x8.1.fAt,dN x8.1.fN],dT x8.2],.tup [.agg [dN x8.1.fAt,dN x8.1.fN],dT x8.2],.agg [dN x8.1.fAt,dN x8.1.fN],dT x8.2,dP (blk (env6 11)),.dead,dT x8.2]) (fun D env6=>[.var b0 [.val v1] 359,.row v1 (List.map e_arena_Span a2) 2 142,.var (blk p2) [dN a0,dN (w64 (a1-a0))] 142]++(bif D 11 then [(bif D 12 then .var (blk (env6 11)) [dN x8.1.fAt,dN x8.1.fN] 142 else .var (blk (env6 11)) [dN 0,dN 0] 142)] else [])) [0,1,3,0,15,31,0,127,255,511,511,0,3071,8191] [0,6,7,8,9] _ (by decide +kernel) (by decide +kernel) (fun _=>rfl) (fun _=>rfl) ?_ (fun _=>rfl) (fun _=>rfl) ?_;rotate_left
 ·intro env6;show T X _ _ _;refine aS ?_;refine aA rfl rfl ?_;refine aN rfl ?_;rcases ite_some ht3 with ⟨c9,ht3⟩|⟨c9,ht3⟩;rotate_left
  ·refine T.condF rfl (eq_false_of_ne_true c9) ?_;refine T.skip ?_;obtain rfl:=osi ht3;exact⟨_,gP [0,6] [0,1,2] rfl rfl rfl,_,rfl,rfl⟩
  refine T.condT rfl (c9) ?_;refine T.seq ?_;refine T.drawS drawsX (fun env10=>[dP b0,dP b0,.val v1,dN (w64 ((a2.length:Int)-1)),.agg [dN x8.1.fAt,dN x8.1.fN],.val (.pointer (some ⟨blk v1,(w64 ((a2.length:Int)-1)).toNat*2,none⟩)),.dead]) (fun D env10=>[.var b0 [.val v1] 359,(bif D 6 then .row v1 (List.map e_arena_Span (a2.set (w64 ((a2.length:Int)-1)).toNat x8.1)) 2 142 else .row v1 (List.map e_arena_Span a2) 2 142),.var (blk p2) [dN a0,dN (w64 (a1-a0))] 142,.var (blk (env6 11)) [dN x8.1.fAt,dN x8.1.fN] 142]) [0,1,3,0,0,31,63] [0,6] _ (by decide +kernel) (by decide +kernel) (fun _=>rfl) (fun _=>rfl) ?_ (fun _=>rfl) (fun _=>rfl) ?_;rotate_left
  ·intro env10;show T X _ _ _;refine T.ret ?_;obtain rfl:=osi ht3;obtain rfl:=osi h0;exact rP [0,1] [] [0,1] rfl rfl rfl (.tuple #[v1]) ResL.nil rfl rfl rfl rfl
  iterate 2 refine aC ?_
  refine oT (.val v1) (fun _ _=>OpR.loadPtr 0 rfl rfl rfl rfl) ?_;refine aC ?_;refine oT (.agg [dN x8.1.fAt,dN x8.1.fN]) (fun _ _=>OpR.loadPtr 3 rfl rfl rfl rfl) ?_;refine OpsS.cons' true ?_ (fun _ _ _ _ _ _ _=>rfl) ?_
  ·intro D env10 hA;have e6:D 6=false:=hA.no 6 _ rfl rfl;exact OpS.yp [(6,false)] ⟨e6,trivial⟩ (Want.plain rfl) (OpR.rowIndexM e_arena_Span 1 hx7 rfl rfl rfl rfl rfl rfl rfl) (fun x=>rfl) (fun x=>rfl)
  refine OpsS.cons' true ?_ (fun _ _ _ _ _ _ _=>rfl) ?_
  ·intro D env10 hA;exact OpS.yp [(6,false)] ⟨hA.me,trivial⟩ (Want.plain rfl) (OpR.rowStore0M (j:=w64 ((a2.length:Int)-1)) e_arena_Span x8.1 1 hx7 rfl rfl rfl rfl rfl rfl rfl rfl rfl) (fun x=>rfl) (fun x=>rfl)
  exact trivial
 iterate 2 refine aC ?_
 refine oT (.val v1) (fun _ _=>OpR.loadPtr 0 rfl rfl rfl rfl) ?_;refine aC ?_;refine oT (.val (.pointer (some ⟨blk v1,(w64 ((a2.length:Int)-1)).toNat*2,none⟩))) (fun _ _=>OpR.rowIndexM e_arena_Span 1 hx7 rfl rfl rfl rfl rfl rfl rfl) ?_;refine oT (.agg [dN x7.fAt,dN x7.fN]) (fun _ _=>OpR.rowLoad0M (j:=w64 ((a2.length:Int)-1)) e_arena_Span 1 hx7 rfl rfl rfl rfl) ?_;refine oT (.agg [dN a0,dN (w64 (a1-a0))]) (fun _ _=>OpR.loadPtr 2 rfl rfl rfl rfl) ?_;refine oT (.tup [.agg [dN x8.1.fAt,dN x8.1.fN],dT x8.2]) (fun _ _=>OpR.call0 fn271 (arena_Join_c hx8) rfl) ?_;iterate 3 refine aC ?_
 refine OpsS.cons' true ?_ (fun D hA env6 x j hj hD=>match j,hj,hD with|0,_,_=>rfl|1,_,_=>rfl|2,_,_=>rfl|3,_,_=>rfl|4,_,_=>rfl|5,_,_=>rfl|6,_,_=>rfl|7,_,_=>rfl|8,_,_=>rfl|9,_,_=>rfl|10,_,_=>rfl|11,hj,_=>absurd rfl hj|12,_,_=>rfl|13,_,_=>rfl|_+14,_,_=>rfl) ?_
 ·intro D env6 hA;have e12:D 12=false:=hA.no 12 _ rfl rfl;exact OpS.yp [(12,false),(11,false)] ⟨e12,hA.me,trivial⟩ (Want.plain rfl) (OpR.alloc rfl rfl (fun _=>rfl)) (fun x=>rfl) (fun x=>rfl)
 refine OpsS.cons' true ?_ (fun _ _ _ _ _ _ _=>rfl) ?_
 ·intro D env6 hA;have e11:D 11=true:=hA.yes 11 _ rfl rfl;exact OpS.yp [(11,true),(12,false)] ⟨e11,hA.me,trivial⟩ (Want.plain rfl) (OpR.store 3 rfl rfl rfl rfl rfl rfl rfl rfl) (fun x=>rfl) (fun x=>rfl)
 refine aC ?_;exact trivial
noncomputable def scan_reader_marked (a0:List UInt8) (a1:Int):Option Bool:=
 bnd (scan_reader_done a0 a1) fun x1=>
 if x1=true then
 some true
else
 bnd (idx a0 a1) fun x4=>
 bnd (if (x4.toNat:Int)=44 then
 some ((x4.toNat:Int)==44)
else
 if (x4.toNat:Int)=13 then
 some ((x4.toNat:Int)==13)
else
 some ((x4.toNat:Int)==10):Option Bool) fun t5=>
 if t5=true then
 some true
else
 some false
theorem scan_reader_marked_c {a0:List UInt8} {a1:Int} {b0:Nat} {res:Bool} (h0:scan_reader_marked a0 a1=some res):CallF X 276 [dP b0] [.var b0 [.sl 1 (lB a0),dN a1] 267] (fun x=>(dT res)) (fun x=>[.var b0 [.sl 1 (lB a0),dN a1] 267]):=by
 unfold scan_reader_marked at h0;refine CallF.mkG (X:=X) rfl Tryz.func276 rfl rfl Tryz.ntmps276 rfl rfl ?_;refine aS ?_;refine aA rfl rfl ?_;refine aN rfl ?_;refine T.seq ?_;refine aS ?_;refine aA rfl rfl ?_;obtain⟨x1,hx1,h0⟩:=bS h0;refine TL.op1 (OpR.call [0] fn192 (scan_reader_done_c hx1) rfl rfl rfl (fun _=>rfl)) rfl ?_;refine aN rfl ?_;rcases ite_some h0 with ⟨c2,h0⟩|⟨c2,h0⟩
 ·refine T.condT rfl (c2) ?_;refine aS ?_;refine aA rfl rfl ?_;refine aN rfl ?_;refine T.ret ?_;obtain rfl:=osi h0;exact rO [0] [2] rfl undef (cT rfl ResL.nil) rfl rfl rfl rfl
 refine T.condF rfl (eq_false_of_ne_true c2) ?_;refine aK rfl ?_;refine T.seq ?_;refine T.seq ?_;obtain⟨x4,hx4,h0⟩:=bS h0;refine T.drawQ drawsX [dP b0,dP b0,dP b0,.sl 1 (lB a0),dP b0,dP b0,.val (.pointer (some ⟨b0,1,none⟩)),dN a1,.nod [.val (.int .u8 (x4.toNat:Int))],.val (.int .u8 (x4.toNat:Int))] [2,14] (by decide +kernel) rfl ?_ rfl ?_
 ·iterate 3 refine aB rfl rfl rfl ?_
  refine OpsQ.yes (Want.plain rfl) rfl (OpR.loadPtr 0 rfl rfl rfl rfl) ?_;iterate 3 refine aB rfl rfl rfl ?_
  refine OpsQ.yes (Want.plain rfl) rfl (OpR.loadPtr 0 rfl rfl rfl rfl) ?_;refine OpsQ.yes (Want.plain rfl) rfl (OpR.indexM byteD hx4 rfl rfl rfl rfl rfl) ?_;refine aB rfl rfl rfl ?_;exact OpsQ.nil
 show T X _ _ _;refine T.block ?_;refine T.seq ?_;refine aS ?_;iterate 2 refine aA rfl rfl ?_
 refine aN rfl ?_;obtain⟨t5,ht5,h0⟩:=bS h0;refine T.cutC (fun S'=>S'=⟨[(15,(dT t5)),(2,(dT false))],[.var b0 [.sl 1 (lB a0),dN a1] 267],19⟩) (fun _ h=>h) ?_ ?_;rotate_left
 ·rintro _ rfl;show T X _ _ _;rcases ite_some h0 with ⟨c8,h0⟩|⟨c8,h0⟩
  ·refine T.condT rfl (c8) ?_;refine aS ?_;refine aA rfl rfl ?_;refine aN rfl ?_;refine T.ret ?_;obtain rfl:=osi h0;exact rO [0] [2] rfl undef (cT rfl ResL.nil) rfl rfl rfl rfl
  refine T.condF rfl (eq_false_of_ne_true c8) ?_;refine aK rfl ?_;refine aS ?_;refine aA rfl rfl ?_;refine aN rfl ?_;refine T.ret ?_;obtain rfl:=osi h0;exact rO [0] [2] rfl undef (cT rfl ResL.nil) rfl rfl rfl rfl
 rcases ite_some ht5 with ⟨c6,ht5⟩|⟨c6,ht5⟩
 ·refine T.condT rfl (beq_iff_eq.2 c6) ?_;refine T.skip ?_;obtain rfl:=osi ht5;exact⟨_,Gst.only [2,15] rfl,rfl⟩
 refine T.condF rfl (beq_eq_false_iff_ne.2 c6) ?_;refine aS ?_;iterate 2 refine aA rfl rfl ?_
 refine aN rfl ?_;rcases ite_some ht5 with ⟨c7,ht5⟩|⟨c7,ht5⟩
 ·refine T.condT rfl (beq_iff_eq.2 c7) ?_;refine T.skip ?_;obtain rfl:=osi ht5;exact⟨_,Gst.only [2,15] rfl,rfl⟩
 refine T.condF rfl (beq_eq_false_iff_ne.2 c7) ?_;refine T.region ?_;iterate 2 refine aA rfl rfl ?_
 refine TL.nil ?_;obtain rfl:=osi ht5;exact⟨_,Gst.only [2,15] rfl,rfl⟩
noncomputable def scan_reader_plain.l1 (a0:List UInt8) (s2:Bool × Int):Option (Lp (Bool × Int) (Bool × Int)):=
 bnd (scan_reader_marked a0 s2.2) fun x10=>
 if x10=true then
 some (Lp.done (s2.1,s2.2))
else
 bnd (if s2.1=true then
 some true
else
 bnd (scan_reader_is 34 a0 s2.2) fun x14=>
 some x14:Option Bool) fun t12=>
 some (Lp.next (t12,w64 (s2.2+1)))
noncomputable def scan_reader_plain (a0:List UInt8) (a1:Int):Option (Bool × Int):=
 bnd (loop (scan_reader_plain.l1 a0) (false,a1):Option (Bool × Int)) fun t1=>
 some (t1.1,t1.2)
theorem scan_reader_plain_c {a0:List UInt8} {a1:Int} {b0:Nat} {res:Bool × Int} (h0:scan_reader_plain a0 a1=some res):CallF X 270 [dP b0] [.var b0 [.sl 1 (lB a0),dN a1] 267] (fun x=>(dT res.1)) (fun x=>[.var b0 [.sl 1 (lB a0),dN res.2] 267]):=by
 unfold scan_reader_plain at h0;refine CallF.mkG (X:=X) rfl Tryz.func270 rfl rfl Tryz.ntmps270 rfl rfl ?_;refine aS ?_;refine aA rfl rfl ?_;refine aN rfl ?_;refine aS ?_;refine aA rfl rfl ?_;refine aN rfl ?_;refine T.seq ?_;obtain⟨t1,ht1,h0⟩:=bS h0;refine T.cutC (fun S'=>S'=⟨[(3,(dT t1.1)),(2,(dT false))],[.var b0 [.sl 1 (lB a0),dN t1.2] 267],20⟩) (fun _ h=>h) ?_ ?_;rotate_left
 ·rintro _ rfl;show T X _ _ _;refine aS ?_;iterate 2 refine aA rfl rfl ?_
  refine aN rfl ?_;refine T.ret ?_;obtain rfl:=osi h0;exact rO [0] [2] rfl undef (cT rfl ResL.nil) rfl rfl rfl rfl
 refine T.block ?_;obtain⟨n3,n8⟩:=loop_some ht1;refine T.loop (fun n S'=>∃ S'',Gst S' S''∧∃ s2:Bool × Int,S''=⟨[(3,(dT s2.1)),(2,(dT false)),(0,(dP b0))],[.var b0 [.sl 1 (lB a0),dN s2.2] 267],20⟩∧iter (scan_reader_plain.l1 a0) n s2=some t1) n3 ?_ ?_
 ·exact⟨_,Gst.only [0,2,3] rfl,(false,a1),rfl,n8⟩
 rintro n3 _ ⟨_,g,s2,rfl,i7⟩;refine T.ghost g ?_;obtain⟨m4,q5,rfl,q6,i7⟩:=iter_succ i7;unfold scan_reader_plain.l1 at q6;refine T.seq ?_;refine aS ?_;refine aA rfl rfl ?_;obtain⟨x10,hx10,q6⟩:=bS q6;refine TL.op1 (OpR.call [0] fn276 (scan_reader_marked_c hx10) rfl rfl rfl (fun _=>rfl)) rfl ?_;refine aA rfl rfl ?_;refine aN rfl ?_;rcases ite_some q6 with ⟨c11,q6⟩|⟨c11,q6⟩
 ·refine T.condF rfl (not_t (c11)) ?_;refine T.exit ?_;obtain rfl:=osi q6;obtain rfl:_=_:=i7;exact⟨_,Gst.only [2,3] rfl,rfl⟩
 refine T.condT rfl (not_f (eq_false_of_ne_true c11)) ?_;refine aK rfl ?_;refine T.seq ?_;refine T.block ?_;obtain⟨t12,ht12,q6⟩:=bS q6;refine T.cutC (fun S'=>S'=⟨[(3,(dT t12)),(2,(dT false)),(0,(dP b0))],[.var b0 [.sl 1 (lB a0),dN s2.2] 267],20⟩) (fun _ h=>h) ?_ ?_;rotate_left
 ·rintro _ rfl;show T X _ _ _;refine T.region ?_;iterate 3 refine aA rfl rfl ?_
  refine TL.op1 (OpR.loadPtr 0 rfl rfl rfl rfl) rfl ?_;iterate 3 refine aA rfl rfl ?_
  refine TL.op0 (OpR.store 0 rfl rfl rfl rfl rfl rfl rfl rfl) ?_;refine TL.nil ?_;obtain rfl:=osi q6;exact⟨m4,Nat.lt_succ_self _,_,Gst.only [0,2,3] rfl,(t12,w64 (s2.2+1)),rfl,i7⟩
 refine T.region ?_;iterate 2 refine aA rfl rfl ?_
 rcases ite_some ht12 with ⟨c13,ht12⟩|⟨c13,ht12⟩
 ·refine TL.off rfl rfl rfl rfl (c13) rfl rfl ?_;refine TL.off rfl rfl rfl rfl (c13) rfl rfl ?_;refine TL.op1 (OpR.pickT rfl (c13) rfl) rfl ?_;refine aA rfl rfl ?_;refine TL.nil ?_;obtain rfl:=osi ht12;exact⟨_,Gst.only [0,2,3] rfl,rfl⟩
 refine TL.on rfl rfl rfl rfl (eq_false_of_ne_true c13) ?_;refine aA rfl rfl ?_;refine TL.on rfl rfl rfl rfl (eq_false_of_ne_true c13) ?_;obtain⟨x14,hx14,ht12⟩:=bS ht12;refine TL.op1 (OpR.call [0] fn226 (scan_reader_is_c hx14) rfl rfl rfl (fun _=>rfl)) rfl ?_;refine TL.op1 (OpR.pickF rfl (eq_false_of_ne_true c13) rfl) rfl ?_;refine aA rfl rfl ?_;refine TL.nil ?_;obtain rfl:=osi ht12;exact⟨_,Gst.only [0,2,3] rfl,rfl⟩
noncomputable def scan_reader_quoted.l1 (a0:List UInt8) (s14:Int):Option (Lp Int Int):=
 bnd (bnd (scan_reader_done a0 s14) fun x23=>
 if x23=true then
 some false
else
 bnd (scan_reader_is 34 a0 s14) fun x25=>
 some (!x25):Option Bool) fun t22=>
 if t22=true then
 some (Lp.next (w64 (s14+1)))
else
 some (Lp.done s14)
noncomputable def scan_reader_quoted.l2 (a0:List UInt8) (s5:Int × Int × (List arena_Span)):Option (Lp (Int × Int × (List arena_Span)) (Int × (List arena_Span) × Int)):=
 bnd (loop (scan_reader_quoted.l1 a0) s5.2.1:Option Int) fun t13=>
 bnd (scan_reader_done a0 t13) fun x27=>
 if x27=true then
 bnd (scan_parts_add_2 s5.1 t13 s5.2.2) fun x29=>
 some (Lp.done (4,x29,t13))
else
 bnd (scan_reader_is 34 a0 (w64 (t13+1))) fun x32=>
 if x32=true then
 bnd (scan_parts_add_2 s5.1 (w64 (t13+1)) s5.2.2) fun x34=>
 some (Lp.next (w64 ((w64 (t13+1))+1),w64 ((w64 (t13+1))+1),x34))
else
 bnd (scan_parts_add_2 s5.1 (w64 ((w64 (t13+1))-1)) s5.2.2) fun x36=>
 bnd (scan_reader_plain a0 (w64 (t13+1))) fun x38=>
 bnd (scan_parts_add_2 (w64 (t13+1)) x38.2 x36) fun x39=>
 if x38.2>(w64 (t13+1)) then
 some (Lp.done (3,x39,x38.2))
else
 some (Lp.done (1,x39,x38.2))
noncomputable def scan_reader_quoted (a0:List UInt8) (a1:Int):Option (Int × (List arena_Span) × Int):=
 loop (scan_reader_quoted.l2 a0) (w64 (a1+1),w64 (a1+1),[])
theorem scan_reader_quoted_c {a0:List UInt8} {a1:Int} {b0:Nat} {res:Int × (List arena_Span) × Int} (h0:scan_reader_quoted a0 a1=some res):CallF X 252 [dP b0] [.var b0 [.sl 1 (lB a0),dN a1] 267] (fun x=>.tup [dN res.1,.sl 2 (List.map e_arena_Span res.2.1)]) (fun x=>[.var b0 [.sl 1 (lB a0),dN res.2.2] 267]):=by
 unfold scan_reader_quoted at h0;refine CallF.mkG (X:=X) rfl Tryz.func252 rfl rfl Tryz.ntmps252 rfl rfl ?_;refine aS ?_;iterate 2 refine aA rfl rfl ?_
 refine aN rfl ?_;refine T.scope rfl 0 rfl ?_;refine aS ?_;refine TL.op (OpR.alloc rfl rfl (fun _=>rfl)) rfl (fun p3=>?_);refine aN rfl ?_;refine aS ?_;iterate 3 refine aA rfl rfl ?_
 refine TL.op1 (OpR.loadPtr 0 rfl rfl rfl rfl) rfl ?_;iterate 3 refine aA rfl rfl ?_
 refine TL.op0 (OpR.store 0 rfl rfl rfl rfl rfl rfl rfl rfl) ?_;refine aN rfl ?_;refine aS ?_;iterate 3 refine aA rfl rfl ?_
 refine TL.op1 (OpR.loadPtr 0 rfl rfl rfl rfl) rfl ?_;refine aA rfl rfl ?_;refine aN rfl ?_;refine T.seq ?_;refine T.label ?_;show T X _ _ _;obtain⟨n6,n11⟩:=loop_some h0;refine T.atLabelS rfl ?_ (fun n S'=>∃ S'',Gst S' S''∧∃ y4:Value,∃ s5:Int × Int × (List arena_Span),S''=⟨[(5,(dN s5.1)),(4,(dP (blk p3))),(3,.val (.slice none 0 0)),(2,(dN 0)),(0,(dP b0))],[.var b0 [.sl 1 (lB a0),dN s5.2.1] 267,.var (blk p3) [.val y4] 359,.row y4 (List.map e_arena_Span s5.2.2) 2 142],94⟩∧iter (scan_reader_quoted.l2 a0) n s5=some res) n6 ?_ ?_
 ·rfl
 ·exact⟨_,Gst.trans (Gst.only [0,2,3,4,5] rfl) (Gst.nilRow (ow:=[.var b0 [.sl 1 (lB a0),dN (w64 (a1+1))] 267,.var (blk p3) [.val (.slice none 0 0)] 359]) 2 142 rfl),(.slice none 0 0),(w64 (a1+1),w64 (a1+1),[]),rfl,n11⟩
 rintro n6 _ ⟨_,g,y4,s5,rfl,i10⟩;refine T.ghost g ?_;obtain⟨m7,q8,rfl,q9,i10⟩:=iter_succ i10;unfold scan_reader_quoted.l2 at q9;refine T.seq ?_;obtain⟨t13,ht13,q9⟩:=bS q9;refine T.cutC (fun S'=>S'=⟨[(5,(dN s5.1)),(4,(dP (blk p3))),(3,.val (.slice none 0 0)),(2,(dN 0)),(0,(dP b0))],[.var b0 [.sl 1 (lB a0),dN t13] 267,.var (blk p3) [.val y4] 359,.row y4 (List.map e_arena_Span s5.2.2) 2 142],94⟩) (fun _ h=>h) ?_ ?_
 ·refine T.block ?_;obtain⟨n15,n20⟩:=loop_some ht13;refine T.loop (fun n S'=>∃ S'',Gst S' S''∧∃ s14:Int,S''=⟨[(5,(dN s5.1)),(4,(dP (blk p3))),(3,.val (.slice none 0 0)),(2,(dN 0)),(0,(dP b0))],[.var b0 [.sl 1 (lB a0),dN s14] 267,.var (blk p3) [.val y4] 359,.row y4 (List.map e_arena_Span s5.2.2) 2 142],94⟩∧iter (scan_reader_quoted.l1 a0) n s14=some t13) n15 ?_ ?_
  ·exact⟨_,Gst.only [0,2,3,4,5] rfl,s5.2.1,rfl,n20⟩
  rintro n15 _ ⟨_,g,s14,rfl,i19⟩;refine T.ghost g ?_;obtain⟨m16,q17,rfl,q18,i19⟩:=iter_succ i19;unfold scan_reader_quoted.l1 at q18;refine T.seq ?_;refine T.seq ?_;obtain⟨t22,ht22,q18⟩:=bS q18;refine T.cutC (fun S'=>S'=⟨[(24,(dT t22)),(5,(dN s5.1)),(4,(dP (blk p3))),(3,.val (.slice none 0 0)),(2,(dN 0)),(0,(dP b0))],[.var b0 [.sl 1 (lB a0),dN s14] 267,.var (blk p3) [.val y4] 359,.row y4 (List.map e_arena_Span s5.2.2) 2 142],94⟩) (fun _ h=>h) ?_ ?_;rotate_left
  ·rintro _ rfl;show T X _ _ _;rcases ite_some q18 with ⟨c26,q18⟩|⟨c26,q18⟩;rotate_left
   ·refine T.condF rfl (eq_false_of_ne_true c26) ?_;refine T.exit ?_;obtain rfl:=osi q18;obtain rfl:_=_:=i19;exact⟨_,Gst.only [0,2,3,4,5] rfl,rfl⟩
   refine T.condT rfl (c26) ?_;refine aK rfl ?_;refine T.block ?_;refine T.region ?_;iterate 3 refine aA rfl rfl ?_
   refine TL.op1 (OpR.loadPtr 0 rfl rfl rfl rfl) rfl ?_;iterate 3 refine aA rfl rfl ?_
   refine TL.op0 (OpR.store 0 rfl rfl rfl rfl rfl rfl rfl rfl) ?_;refine TL.nil ?_;obtain rfl:=osi q18;exact⟨m16,Nat.lt_succ_self _,_,Gst.only [0,2,3,4,5] rfl,w64 (s14+1),rfl,i19⟩
  refine T.region ?_;refine aA rfl rfl ?_;obtain⟨x23,hx23,ht22⟩:=bS ht22;refine TL.op1 (OpR.call [0] fn192 (scan_reader_done_c hx23) rfl rfl rfl (fun _=>rfl)) rfl ?_;iterate 2 refine aA rfl rfl ?_
  rcases ite_some ht22 with ⟨c24,ht22⟩|⟨c24,ht22⟩
  ·refine TL.off rfl rfl rfl rfl (not_t (c24)) rfl rfl ?_;refine TL.off rfl rfl rfl rfl (not_t (c24)) rfl rfl ?_;refine TL.off rfl rfl rfl rfl (not_t (c24)) rfl rfl ?_;refine TL.op1 (OpR.pickF rfl (not_t (c24)) rfl) rfl ?_;refine TL.nil ?_;obtain rfl:=osi ht22;exact⟨_,Gst.only [0,2,3,4,5,24] rfl,rfl⟩
  refine TL.on rfl rfl rfl rfl (not_f (eq_false_of_ne_true c24)) ?_;refine aA rfl rfl ?_;refine TL.on rfl rfl rfl rfl (not_f (eq_false_of_ne_true c24)) ?_;obtain⟨x25,hx25,ht22⟩:=bS ht22;refine TL.op1 (OpR.call [0] fn226 (scan_reader_is_c hx25) rfl rfl rfl (fun _=>rfl)) rfl ?_;refine TL.on rfl rfl rfl rfl (not_f (eq_false_of_ne_true c24)) ?_;refine aA rfl rfl ?_;refine TL.op1 (OpR.pickT rfl (not_f (eq_false_of_ne_true c24)) rfl) rfl ?_;refine TL.nil ?_;obtain rfl:=osi ht22;exact⟨_,Gst.only [0,2,3,4,5,24] rfl,rfl⟩
 rintro _ rfl;show T X _ _ _;refine T.seq ?_;refine aS ?_;refine aA rfl rfl ?_;obtain⟨x27,hx27,q9⟩:=bS q9;refine TL.op1 (OpR.call [0] fn192 (scan_reader_done_c hx27) rfl rfl rfl (fun _=>rfl)) rfl ?_;refine aN rfl ?_;rcases ite_some q9 with ⟨c28,q9⟩|⟨c28,q9⟩
 ·refine T.condT rfl (c28) ?_;refine aS ?_;iterate 4 refine aA rfl rfl ?_
  refine TL.op1 (OpR.loadPtr 0 rfl rfl rfl rfl) rfl ?_;obtain⟨x29,hx29,q9⟩:=bS q9;refine TL.op (OpR.call [1,2] fn269 (scan_parts_add_2_c hx29) rfl rfl rfl (fun _=>rfl)) rfl (fun w30=>?_);refine aN rfl ?_;refine T.seq ?_;refine T.drawQ drawsX [.val (vn w30 0),dN 4,.val (vn w30 0)] [0,2,3,4,5] (by decide +kernel) rfl ?_ rfl ?_
  ·refine OpsQ.yes (Want.plain rfl) rfl (OpR.loadPtr 1 rfl rfl rfl rfl) ?_;iterate 2 refine aB rfl rfl rfl ?_
   exact OpsQ.nil
  show T X _ _ _;refine T.ret ?_;obtain rfl:=osi q9;obtain rfl:_=_:=i10;exact PostG.retP (ks:=[0]) (Gst.trans (Gst.only [2,3] rfl) (Gst.trans (Gst.freezeRow 2 rfl rfl (ReS.cons (Re.base .all) (ReS.cons Re.refl ReS.nil)) (ReO.same (ReO.var (ReL.cons (Re.base .all) ReL.nil) (ReO.same ReO.nil)))) (Gst.pick [0] rfl rfl))) undef (cT rfl (cT rfl ResL.nil)) rfl rfl rfl rfl
 refine T.condF rfl (eq_false_of_ne_true c28) ?_;refine aK rfl ?_;refine aS ?_;iterate 3 refine aA rfl rfl ?_
 refine TL.op1 (OpR.loadPtr 0 rfl rfl rfl rfl) rfl ?_;iterate 3 refine aA rfl rfl ?_
 refine TL.op0 (OpR.store 0 rfl rfl rfl rfl rfl rfl rfl rfl) ?_;refine aN rfl ?_;refine T.seq ?_;refine aS ?_;refine aA rfl rfl ?_;obtain⟨x32,hx32,q9⟩:=bS q9;refine TL.op1 (OpR.call [0] fn226 (scan_reader_is_c hx32) rfl rfl rfl (fun _=>rfl)) rfl ?_;refine aN rfl ?_;rcases ite_some q9 with ⟨c33,q9⟩|⟨c33,q9⟩
 ·refine T.condT rfl (c33) ?_;refine aS ?_;iterate 4 refine aA rfl rfl ?_
  refine TL.op1 (OpR.loadPtr 0 rfl rfl rfl rfl) rfl ?_;obtain⟨x34,hx34,q9⟩:=bS q9;refine TL.op (OpR.call [1,2] fn269 (scan_parts_add_2_c hx34) rfl rfl rfl (fun _=>rfl)) rfl (fun w35=>?_);refine aN rfl ?_;refine aS ?_;iterate 3 refine aA rfl rfl ?_
  refine TL.op1 (OpR.loadPtr 0 rfl rfl rfl rfl) rfl ?_;iterate 3 refine aA rfl rfl ?_
  refine TL.op0 (OpR.store 0 rfl rfl rfl rfl rfl rfl rfl rfl) ?_;refine aN rfl ?_;refine aS ?_;iterate 3 refine aA rfl rfl ?_
  refine TL.op1 (OpR.loadPtr 0 rfl rfl rfl rfl) rfl ?_;refine aA rfl rfl ?_;refine aN rfl ?_;refine T.goto ?_;obtain rfl:=osi q9;exact⟨rfl,m7,Nat.lt_succ_self _,_,Gst.only [0,2,3,4,5] rfl,(vn w35 0),(w64 ((w64 (t13+1))+1),w64 ((w64 (t13+1))+1),x34),rfl,i10⟩
 refine T.condF rfl (eq_false_of_ne_true c33) ?_;refine aK rfl ?_;refine aS ?_;iterate 4 refine aA rfl rfl ?_
 refine TL.op1 (OpR.loadPtr 0 rfl rfl rfl rfl) rfl ?_;refine aA rfl rfl ?_;obtain⟨x36,hx36,q9⟩:=bS q9;refine TL.op (OpR.call [1,2] fn269 (scan_parts_add_2_c hx36) rfl rfl rfl (fun _=>rfl)) rfl (fun w37=>?_);refine aN rfl ?_;refine aS ?_;iterate 3 refine aA rfl rfl ?_
 refine TL.op1 (OpR.loadPtr 0 rfl rfl rfl rfl) rfl ?_;refine aA rfl rfl ?_;refine aN rfl ?_;refine aS ?_;refine aA rfl rfl ?_;obtain⟨x38,hx38,q9⟩:=bS q9;refine TL.op1 (OpR.call [0] fn270 (scan_reader_plain_c hx38) rfl rfl rfl (fun _=>rfl)) rfl ?_;refine aN rfl ?_;refine aS ?_;iterate 4 refine aA rfl rfl ?_
 refine TL.op1 (OpR.loadPtr 0 rfl rfl rfl rfl) rfl ?_;obtain⟨x39,hx39,q9⟩:=bS q9;refine TL.op (OpR.call [1,2] fn269 (scan_parts_add_2_c hx39) rfl rfl rfl (fun _=>rfl)) rfl (fun w40=>?_);refine aN rfl ?_;refine T.seq ?_;refine aS ?_;iterate 3 refine aA rfl rfl ?_
 refine TL.op1 (OpR.loadPtr 0 rfl rfl rfl rfl) rfl ?_;iterate 2 refine aA rfl rfl ?_
 refine aN rfl ?_;rcases ite_some q9 with ⟨c41,q9⟩|⟨c41,q9⟩
 ·refine T.condT rfl (eT c41) ?_;refine T.seq ?_;refine T.drawQ drawsX [.val (vn w40 0),dN 3,.val (vn w40 0)] [0,2,3,4,5] (by decide +kernel) rfl ?_ rfl ?_
  ·refine OpsQ.yes (Want.plain rfl) rfl (OpR.loadPtr 1 rfl rfl rfl rfl) ?_;iterate 2 refine aB rfl rfl rfl ?_
   exact OpsQ.nil
  show T X _ _ _;refine T.ret ?_;obtain rfl:=osi q9;obtain rfl:_=_:=i10;exact PostG.retP (ks:=[0]) (Gst.trans (Gst.only [2,3] rfl) (Gst.trans (Gst.freezeRow 2 rfl rfl (ReS.cons (Re.base .all) (ReS.cons Re.refl ReS.nil)) (ReO.same (ReO.var (ReL.cons (Re.base .all) ReL.nil) (ReO.same ReO.nil)))) (Gst.pick [0] rfl rfl))) undef (cT rfl (cT rfl ResL.nil)) rfl rfl rfl rfl
 refine T.condF rfl (eF c41) ?_;refine aK rfl ?_;refine T.seq ?_;refine T.drawQ drawsX [.val (vn w40 0),dN 1,.val (vn w40 0)] [0,2,3,4,5] (by decide +kernel) rfl ?_ rfl ?_
 ·refine OpsQ.yes (Want.plain rfl) rfl (OpR.loadPtr 1 rfl rfl rfl rfl) ?_;iterate 2 refine aB rfl rfl rfl ?_
  exact OpsQ.nil
 show T X _ _ _;refine T.ret ?_;obtain rfl:=osi q9;obtain rfl:_=_:=i10;exact PostG.retP (ks:=[0]) (Gst.trans (Gst.only [2,3] rfl) (Gst.trans (Gst.freezeRow 2 rfl rfl (ReS.cons (Re.base .all) (ReS.cons Re.refl ReS.nil)) (ReO.same (ReO.var (ReL.cons (Re.base .all) ReL.nil) (ReO.same ReO.nil)))) (Gst.pick [0] rfl rfl))) undef (cT rfl (cT rfl ResL.nil)) rfl rfl rfl rfl
noncomputable def scan_parts_add (a0:Int) (a1:Int):Option (List arena_Span):=
 if a1≤a0 then
 some []
else
 if (w64 (0-1))≥0 then
 bnd (idx ([]:List arena_Span) (w64 (0-1))) fun x5=>
 none
else
 bnd (app 16 [] [(⟨a0,w64 (a1-a0)⟩:arena_Span)]) fun x7=>
 some x7
theorem scan_parts_add_c {a0:Int} {a1:Int} {b0:Nat} {res:(List arena_Span)} (h0:scan_parts_add a0 a1=some res):CallF X 269 [dP b0,dN a0,dN a1] [.var b0 [.val (.slice none 0 0)] 359] (fun x=>.tup []) (fun x=>[.var b0 [.val (vn x 0)] 359,.row (vn x 0) (List.map e_arena_Span res) 2 142]):=by
 unfold scan_parts_add at h0;refine CallF.mkG (X:=X) rfl Tryz.func269 rfl rfl Tryz.ntmps269 rfl rfl ?_;refine T.seq ?_;refine aS ?_;iterate 3 refine aA rfl rfl ?_
 refine aN rfl ?_;rcases ite_some h0 with ⟨c1,h0⟩|⟨c1,h0⟩
 ·refine T.condT rfl (eT c1) ?_;refine T.ret ?_;obtain rfl:=osi h0;exact PostG.retP (ks:=[0,1]) (Gst.trans (Gst.only [] rfl) (Gst.nilRow (ow:=[.var b0 [.val (.slice none 0 0)] 359]) 2 142 rfl)) (.tuple #[(.slice none 0 0)]) ResL.nil rfl rfl rfl rfl
 refine T.condF rfl (eF c1) ?_;refine aK rfl ?_;refine aS ?_;iterate 4 refine aA rfl rfl ?_
 refine TL.op1 (OpR.build rfl rfl rfl rfl rfl) rfl ?_;refine TL.op (OpR.alloc rfl rfl (fun _=>rfl)) rfl (fun p2=>?_);refine TL.op0 (OpR.store 1 rfl rfl rfl rfl rfl rfl rfl rfl) ?_;refine aN rfl ?_;refine T.seq ?_;refine aS ?_;iterate 2 refine aA rfl rfl ?_
 refine TL.op1 (OpR.loadPtr 0 rfl rfl rfl rfl) rfl ?_;iterate 3 refine aA rfl rfl ?_
 refine aN rfl ?_;refine aS ?_;iterate 2 refine aA rfl rfl ?_
 refine aN rfl ?_;rcases ite_some h0 with ⟨c3,h0⟩|⟨c3,h0⟩
 ·refine T.condT rfl (eT c3) ?_;refine T.seq ?_;obtain⟨x5,hx5,h0⟩:=bS h0;exact (idx_nil hx5).elim
 refine T.condF rfl (eF c3) ?_;refine aK rfl ?_;refine T.ghost (Gst.nilRow 2 142 rfl) ?_;obtain⟨x7,hx7,h0⟩:=bS h0;refine T.drawS drawsX (fun env6=>[dP b0,dP b0,dP b0,.val (.slice none 0 0),.agg [dN a0,dN (w64 (a1-a0))],.sl 2 (List.map e_arena_Span [(⟨a0,w64 (a1-a0)⟩:arena_Span)]),.val (env6 6),dP b0,.dead]) (fun D env6=>[(bif D 8 then .var b0 [.val (env6 6)] 359 else .var b0 [.val (.slice none 0 0)] 359),.var (blk p2) [dN a0,dN (w64 (a1-a0))] 142,(bif D 6 then .row (env6 6) (List.map e_arena_Span x7) 2 142 else .row (.slice none 0 0) (List.map e_arena_Span []) 2 142)]) [0,0,2,6,0,16,62,127,255] [] _ (by decide +kernel) (by decide +kernel) (fun _=>rfl) (fun _=>rfl) ?_ (fun _=>rfl) (fun _=>rfl) ?_;rotate_left
 ·intro env6;obtain rfl:=osi h0;exact PostG.finP (ks:=[0,1]) (gP [] [0,2] rfl rfl rfl) (.tuple #[(env6 6)]) ResL.nil rfl rfl rfl rfl
 iterate 3 refine aC ?_
 refine OpsS.cons' true ?_ (fun _ _ _ _ _ _ _=>rfl) ?_
 ·intro D env6 hA;have e6:D 6=false:=hA.no 6 _ rfl rfl;have e8:D 8=false:=hA.no 8 _ rfl rfl;exact OpS.yp [(6,false),(8,false)] ⟨e6,e8,trivial⟩ (Want.plain rfl) (OpR.loadPtr 0 rfl rfl rfl rfl) (fun x=>rfl) (fun x=>rfl)
 refine oT (.agg [dN a0,dN (w64 (a1-a0))]) (fun _ _=>OpR.loadPtr 1 rfl rfl rfl rfl) ?_;refine oT (.sl 2 (List.map e_arena_Span [(⟨a0,w64 (a1-a0)⟩:arena_Span)])) (fun _ _=>OpR.lit rfl rfl rfl rfl rfl rfl rfl) ?_;refine OpsS.cons' true ?_ (fun D hA env6 x j hj hD=>match j,hj,hD with|0,_,_=>rfl|1,_,_=>rfl|2,_,_=>rfl|3,_,_=>rfl|4,_,_=>rfl|5,_,_=>rfl|6,hj,_=>absurd rfl hj|7,_,_=>rfl|8,_,_=>rfl|_+9,_,_=>rfl) ?_
 ·intro D env6 hA;have e8:D 8=false:=hA.no 8 _ rfl rfl;exact OpS.yp [(8,false),(6,false)] ⟨e8,hA.me,trivial⟩ (Want.plain rfl) (OpR.appendM (m:=[(⟨a0,w64 (a1-a0)⟩:arena_Span)]) e_arena_Span 2 hx7 rfl rfl rfl rfl rfl rfl rfl rfl rfl (fun _=>rfl)) (fun x=>rfl) (fun x=>rfl)
 refine aC ?_;refine OpsS.cons' true ?_ (fun _ _ _ _ _ _ _=>rfl) ?_
 ·intro D env6 hA;have e6:D 6=true:=hA.yes 6 _ rfl rfl;exact OpS.yp [(6,true),(8,false)] ⟨e6,hA.me,trivial⟩ (Want.plain rfl) (OpR.store 0 rfl rfl rfl rfl rfl rfl rfl rfl) (fun x=>rfl) (fun x=>rfl)
 exact trivial
noncomputable def scan_reader_bare (a0:List UInt8) (a1:Int):Option (Int × (List arena_Span) × Int):=
 bnd (scan_reader_plain a0 a1) fun x2=>
 bnd (scan_parts_add a1 x2.2) fun x3=>
 if x2.1=true then
 some (2,x3,x2.2)
else
 some (0,x3,x2.2)
theorem scan_reader_bare_c {a0:List UInt8} {a1:Int} {b0:Nat} {res:Int × (List arena_Span) × Int} (h0:scan_reader_bare a0 a1=some res):CallF X 253 [dP b0] [.var b0 [.sl 1 (lB a0),dN a1] 267] (fun x=>.tup [dN res.1,.sl 2 (List.map e_arena_Span res.2.1)]) (fun x=>[.var b0 [.sl 1 (lB a0),dN res.2.2] 267]):=by
 unfold scan_reader_bare at h0;refine CallF.mkG (X:=X) rfl Tryz.func253 rfl rfl Tryz.ntmps253 rfl rfl ?_;refine aS ?_;iterate 2 refine aA rfl rfl ?_
 refine aN rfl ?_;refine aS ?_;refine TL.op (OpR.alloc rfl rfl (fun _=>rfl)) rfl (fun p1=>?_);refine aN rfl ?_;refine aS ?_;iterate 3 refine aA rfl rfl ?_
 refine TL.op1 (OpR.loadPtr 0 rfl rfl rfl rfl) rfl ?_;refine aA rfl rfl ?_;refine aN rfl ?_;refine aS ?_;refine aA rfl rfl ?_;obtain⟨x2,hx2,h0⟩:=bS h0;refine TL.op1 (OpR.call [0] fn270 (scan_reader_plain_c hx2) rfl rfl rfl (fun _=>rfl)) rfl ?_;refine aA rfl rfl ?_;refine aN rfl ?_;refine aS ?_;iterate 4 refine aA rfl rfl ?_
 refine TL.op1 (OpR.loadPtr 0 rfl rfl rfl rfl) rfl ?_;obtain⟨x3,hx3,h0⟩:=bS h0;refine TL.op (OpR.call [1] fn269 (scan_parts_add_c hx3) rfl rfl rfl (fun _=>rfl)) rfl (fun w4=>?_);refine aN rfl ?_;refine T.seq ?_;refine aS ?_;refine aA rfl rfl ?_;refine aN rfl ?_;rcases ite_some h0 with ⟨c5,h0⟩|⟨c5,h0⟩
 ·refine T.condT rfl (c5) ?_;refine T.seq ?_;refine T.drawQ drawsX [.val (vn w4 0),dN 2,.val (vn w4 0)] [2,3,4] (by decide +kernel) rfl ?_ rfl ?_
  ·refine OpsQ.yes (Want.plain rfl) rfl (OpR.loadPtr 1 rfl rfl rfl rfl) ?_;iterate 2 refine aB rfl rfl rfl ?_
   exact OpsQ.nil
  show T X _ _ _;refine T.ret ?_;obtain rfl:=osi h0;exact PostG.retP (ks:=[0]) (Gst.trans (Gst.only [2,3] rfl) (Gst.trans (Gst.freezeRow 2 rfl rfl (ReS.cons (Re.base .all) (ReS.cons Re.refl ReS.nil)) (ReO.same (ReO.var (ReL.cons (Re.base .all) ReL.nil) (ReO.same ReO.nil)))) (Gst.pick [0] rfl rfl))) undef (cT rfl (cT rfl ResL.nil)) rfl rfl rfl rfl
 refine T.condF rfl (eq_false_of_ne_true c5) ?_;refine aK rfl ?_;refine T.seq ?_;refine T.drawQ drawsX [.val (vn w4 0),dN 0,.val (vn w4 0)] [2,3] (by decide +kernel) rfl ?_ rfl ?_
 ·refine OpsQ.yes (Want.plain rfl) rfl (OpR.loadPtr 1 rfl rfl rfl rfl) ?_;iterate 2 refine aB rfl rfl rfl ?_
  exact OpsQ.nil
 show T X _ _ _;refine T.ret ?_;obtain rfl:=osi h0;exact PostG.retP (ks:=[0]) (Gst.trans (Gst.only [2,3] rfl) (Gst.trans (Gst.freezeRow 2 rfl rfl (ReS.cons (Re.base .all) (ReS.cons Re.refl ReS.nil)) (ReO.same (ReO.var (ReL.cons (Re.base .all) ReL.nil) (ReO.same ReO.nil)))) (Gst.pick [0] rfl rfl))) undef (cT rfl (cT rfl ResL.nil)) rfl rfl rfl rfl
noncomputable def scan_reader_field (a0:List UInt8) (a1:Int):Option (scan_Field × Int):=
 bnd (scan_reader_is 34 a0 a1) fun x3=>
 bnd (if x3=true then
 bnd (scan_reader_quoted a0 a1) fun x6=>
 some (x6.2.2,x6.1,x6.2.1)
else
 bnd (scan_reader_bare a0 a1) fun x7=>
 some (x7.2.2,x7.1,x7.2.1):Option (Int × Int × (List arena_Span))) fun t4=>
 some ((⟨(⟨a1,w64 (t4.1-a1)⟩:arena_Span),t4.2.1,t4.2.2⟩:scan_Field),t4.1)
theorem scan_reader_field_c {a0:List UInt8} {a1:Int} {b0:Nat} {res:scan_Field × Int} (h0:scan_reader_field a0 a1=some res):CallF X 225 [dP b0] [.var b0 [.sl 1 (lB a0),dN a1] 267] (fun x=>.agg [dN res.1.fRaw.fAt,dN res.1.fRaw.fN,dN res.1.fKind,.sl 2 (List.map e_arena_Span res.1.fParts)]) (fun x=>[.var b0 [.sl 1 (lB a0),dN res.2] 267]):=by
 unfold scan_reader_field at h0;refine CallF.mkG (X:=X) rfl Tryz.func225 rfl rfl Tryz.ntmps225 rfl rfl ?_;refine aS ?_;refine TL.op (OpR.alloc rfl rfl (fun _=>rfl)) rfl (fun p1=>?_);refine aN rfl ?_;refine aS ?_;iterate 3 refine aA rfl rfl ?_
 refine TL.op1 (OpR.loadPtr 0 rfl rfl rfl rfl) rfl ?_;refine aA rfl rfl ?_;refine aN rfl ?_;refine aS ?_;refine TL.op (OpR.alloc rfl rfl (fun _=>rfl)) rfl (fun p2=>?_);refine aN rfl ?_;refine T.seq ?_;refine aS ?_;refine aA rfl rfl ?_;obtain⟨x3,hx3,h0⟩:=bS h0;refine TL.op1 (OpR.call [0] fn226 (scan_reader_is_c hx3) rfl rfl rfl (fun _=>rfl)) rfl ?_;refine aN rfl ?_;obtain⟨t4,ht4,h0⟩:=bS h0;refine T.cutC (fun S'=>S'=⟨[(4,(dP (blk p2))),(3,(dN a1)),(2,(dP (blk p1))),(0,(dP b0))],[.var b0 [.sl 1 (lB a0),dN t4.1] 267,.var (blk p1) [dN 0,dN 0,dN 0,.val (.slice none 0 0)] 270,.var (blk p2) [dN 0,dN 0,dN t4.2.1,.sl 2 (List.map e_arena_Span t4.2.2)] 270],35⟩) (fun _ h=>h) ?_ ?_;rotate_left
 ·rintro _ rfl;show T X _ _ _;refine aS ?_;iterate 4 refine aA rfl rfl ?_
  refine TL.op1 (OpR.loadPtr 0 rfl rfl rfl rfl) rfl ?_;iterate 2 refine aA rfl rfl ?_
  refine TL.op1 (OpR.build rfl rfl rfl rfl rfl) rfl ?_;refine aA rfl rfl ?_;refine TL.op0 (OpR.store 2 rfl rfl rfl rfl rfl rfl rfl rfl) ?_;refine aN rfl ?_;refine aS ?_;refine TL.op1 (OpR.loadPtr 2 rfl rfl rfl rfl) rfl ?_;refine TL.op0 (OpR.store 1 rfl rfl rfl rfl rfl rfl rfl rfl) ?_;refine aN rfl ?_;refine T.ret ?_;obtain rfl:=osi h0;exact rP [0] [2] [0,1] rfl rfl rfl undef (cV 1 rfl rfl rfl rfl ResL.nil) rfl rfl rfl rfl
 rcases ite_some ht4 with ⟨c5,ht4⟩|⟨c5,ht4⟩
 ·refine T.condT rfl (c5) ?_;refine T.region ?_;refine aA rfl rfl ?_;obtain⟨x6,hx6,ht4⟩:=bS ht4;refine TL.op1 (OpR.call [0] fn252 (scan_reader_quoted_c hx6) rfl rfl rfl (fun _=>rfl)) rfl ?_;iterate 4 refine aA rfl rfl ?_
  refine TL.op0 (OpR.store 2 rfl rfl rfl rfl rfl rfl rfl rfl) ?_;refine aA rfl rfl ?_;refine TL.op0 (OpR.store 2 rfl rfl rfl rfl rfl rfl rfl rfl) ?_;refine TL.nil ?_;obtain rfl:=osi ht4;exact⟨_,Gst.only [0,2,3,4] rfl,rfl⟩
 refine T.condF rfl (eq_false_of_ne_true c5) ?_;refine T.region ?_;refine aA rfl rfl ?_;obtain⟨x7,hx7,ht4⟩:=bS ht4;refine TL.op1 (OpR.call [0] fn253 (scan_reader_bare_c hx7) rfl rfl rfl (fun _=>rfl)) rfl ?_;iterate 4 refine aA rfl rfl ?_
 refine TL.op0 (OpR.store 2 rfl rfl rfl rfl rfl rfl rfl rfl) ?_;refine aA rfl rfl ?_;refine TL.op0 (OpR.store 2 rfl rfl rfl rfl rfl rfl rfl rfl) ?_;refine TL.nil ?_;obtain rfl:=osi ht4;exact⟨_,Gst.only [0,2,3,4] rfl,rfl⟩
noncomputable def scan_reader_end (a0:List UInt8) (a1:Int):Option (Int × Int):=
 bnd (scan_reader_is 10 a0 a1) fun x1=>
 if x1=true then
 some (1,w64 (a1+1))
else
 bnd (scan_reader_is 13 a0 a1) fun x3=>
 if x3=true then
 bnd (scan_reader_is 10 a0 (w64 (a1+1))) fun x5=>
 if x5=true then
 some (2,w64 ((w64 (a1+1))+1))
else
 some (3,w64 (a1+1))
else
 some (0,a1)
theorem scan_reader_end_c {a0:List UInt8} {a1:Int} {b0:Nat} {res:Int × Int} (h0:scan_reader_end a0 a1=some res):CallF X 227 [dP b0] [.var b0 [.sl 1 (lB a0),dN a1] 267] (fun x=>(dN res.1)) (fun x=>[.var b0 [.sl 1 (lB a0),dN res.2] 267]):=by
 unfold scan_reader_end at h0;refine CallF.mkG (X:=X) rfl Tryz.func227 rfl rfl Tryz.ntmps227 rfl rfl ?_;refine aS ?_;refine aA rfl rfl ?_;refine aN rfl ?_;refine T.seq ?_;refine T.block ?_;refine aS ?_;refine aA rfl rfl ?_;obtain⟨x1,hx1,h0⟩:=bS h0;refine TL.op1 (OpR.call [0] fn226 (scan_reader_is_c hx1) rfl rfl rfl (fun _=>rfl)) rfl ?_;refine aA rfl rfl ?_;refine aN rfl ?_;rcases ite_some h0 with ⟨c2,h0⟩|⟨c2,h0⟩
 ·refine T.condT rfl (c2) ?_;refine aS ?_;iterate 3 refine aA rfl rfl ?_
  refine TL.op1 (OpR.loadPtr 0 rfl rfl rfl rfl) rfl ?_;iterate 3 refine aA rfl rfl ?_
  refine TL.op0 (OpR.store 0 rfl rfl rfl rfl rfl rfl rfl rfl) ?_;refine aN rfl ?_;refine aS ?_;refine aA rfl rfl ?_;refine aN rfl ?_;refine T.ret ?_;obtain rfl:=osi h0;exact rO [0] [2] rfl undef (cT rfl ResL.nil) rfl rfl rfl rfl
 refine T.condF rfl (eq_false_of_ne_true c2) ?_;refine aS ?_;refine aA rfl rfl ?_;obtain⟨x3,hx3,h0⟩:=bS h0;refine TL.op1 (OpR.call [0] fn226 (scan_reader_is_c hx3) rfl rfl rfl (fun _=>rfl)) rfl ?_;refine aA rfl rfl ?_;refine aN rfl ?_;rcases ite_some h0 with ⟨c4,h0⟩|⟨c4,h0⟩;rotate_left
 ·refine T.condF rfl (eq_false_of_ne_true c4) ?_;refine aK rfl ?_;refine aS ?_;refine aA rfl rfl ?_;refine aN rfl ?_;refine T.ret ?_;obtain rfl:=osi h0;exact rO [0] [2] rfl undef (cT rfl ResL.nil) rfl rfl rfl rfl
 refine T.condT rfl (c4) ?_;refine aS ?_;iterate 3 refine aA rfl rfl ?_
 refine TL.op1 (OpR.loadPtr 0 rfl rfl rfl rfl) rfl ?_;iterate 3 refine aA rfl rfl ?_
 refine TL.op0 (OpR.store 0 rfl rfl rfl rfl rfl rfl rfl rfl) ?_;refine aN rfl ?_;refine T.seq ?_;refine aS ?_;refine aA rfl rfl ?_;obtain⟨x5,hx5,h0⟩:=bS h0;refine TL.op1 (OpR.call [0] fn226 (scan_reader_is_c hx5) rfl rfl rfl (fun _=>rfl)) rfl ?_;refine aN rfl ?_;rcases ite_some h0 with ⟨c6,h0⟩|⟨c6,h0⟩;rotate_left
 ·refine T.condF rfl (eq_false_of_ne_true c6) ?_;refine aK rfl ?_;refine aS ?_;refine aA rfl rfl ?_;refine aN rfl ?_;refine T.ret ?_;obtain rfl:=osi h0;exact rO [0] [2] rfl undef (cT rfl ResL.nil) rfl rfl rfl rfl
 refine T.condT rfl (c6) ?_;refine aS ?_;iterate 3 refine aA rfl rfl ?_
 refine TL.op1 (OpR.loadPtr 0 rfl rfl rfl rfl) rfl ?_;iterate 3 refine aA rfl rfl ?_
 refine TL.op0 (OpR.store 0 rfl rfl rfl rfl rfl rfl rfl rfl) ?_;refine aN rfl ?_;refine aS ?_;refine aA rfl rfl ?_;refine aN rfl ?_;refine T.ret ?_;obtain rfl:=osi h0;exact rO [0] [2] rfl undef (cT rfl ResL.nil) rfl rfl rfl rfl
noncomputable def scan_reader_row.l1 (a0:List UInt8) (s8:Int × (List scan_Field)):Option (Lp (Int × (List scan_Field)) (Int × (List scan_Field))):=
 bnd (scan_reader_is 44 a0 s8.1) fun x16=>
 if x16=true then
 bnd (scan_reader_field a0 (w64 (s8.1+1))) fun x19=>
 bnd (app 48 s8.2 [x19.1]) fun x20=>
 some (Lp.next (x19.2,x20))
else
 some (Lp.done (s8.1,s8.2))
noncomputable def scan_reader_row (a0:List UInt8) (a1:Int):Option (scan_Row × Int):=
 bnd (scan_reader_field a0 a1) fun x2=>
 bnd (loop (scan_reader_row.l1 a0) (x2.2,[x2.1]):Option (Int × (List scan_Field))) fun t5=>
 bnd (scan_reader_end a0 t5.1) fun x21=>
 some ((⟨t5.2,x21.1⟩:scan_Row),x21.2)
theorem scan_reader_row_c {a0:List UInt8} {a1:Int} {b0:Nat} {res:scan_Row × Int} (h0:scan_reader_row a0 a1=some res):CallF X 193 [dP b0] [.var b0 [.sl 1 (lB a0),dN a1] 267] (fun x=>.agg [.sl 4 (List.map e_scan_Field res.1.fFields),dN res.1.fEnd]) (fun x=>[.var b0 [.sl 1 (lB a0),dN res.2] 267]):=by
 unfold scan_reader_row at h0;refine CallF.mkG (X:=X) rfl Tryz.func193 rfl rfl Tryz.ntmps193 rfl rfl ?_;refine aS ?_;refine TL.op (OpR.alloc rfl rfl (fun _=>rfl)) rfl (fun p1=>?_);refine aN rfl ?_;refine aS ?_;refine aA rfl rfl ?_;obtain⟨x2,hx2,h0⟩:=bS h0;refine TL.op1 (OpR.call [0] fn225 (scan_reader_field_c hx2) rfl rfl rfl (fun _=>rfl)) rfl ?_;refine TL.op (OpR.litRow rfl rfl rfl rfl rfl rfl rfl rfl (fun _=>rfl)) rfl (fun v3=>?_);refine TL.op1 (OpR.build rfl rfl rfl rfl rfl) rfl ?_;refine TL.op (OpR.alloc rfl rfl (fun _=>rfl)) rfl (fun p4=>?_);refine TL.op0 (OpR.store 3 rfl rfl rfl rfl rfl rfl rfl rfl) ?_;refine aN rfl ?_;refine T.seq ?_;obtain⟨t5,ht5,h0⟩:=bS h0;refine T.cutC (fun S'=>∃ y6:Value,S'=⟨[(3,(dP (blk p4))),(2,(dP (blk p1))),(0,(dP b0))],[.var b0 [.sl 1 (lB a0),dN t5.1] 267,.var (blk p1) [.val (.slice none 0 0),dN 0] 202,.var (blk p4) [.val y6,dN 0] 202,.row y6 (List.map e_scan_Field t5.2) 4 270],28⟩) (fun _ h=>h) ?_ ?_;rotate_left
 ·rintro _ ⟨y6,rfl⟩;show T X _ _ _;refine aS ?_;refine aA rfl rfl ?_;obtain⟨x21,hx21,h0⟩:=bS h0;refine TL.op1 (OpR.call [0] fn227 (scan_reader_end_c hx21) rfl rfl rfl (fun _=>rfl)) rfl ?_;refine aA rfl rfl ?_;refine TL.op0 (OpR.store 2 rfl rfl rfl rfl rfl rfl rfl rfl) ?_;refine aN rfl ?_;refine aS ?_;refine TL.op1 (OpR.loadPtr 2 rfl rfl rfl rfl) rfl ?_;refine TL.op0 (OpR.store 1 rfl rfl rfl rfl rfl rfl rfl rfl) ?_;refine aN rfl ?_;refine T.ret ?_;obtain rfl:=osi h0;exact PostG.retP (ks:=[0]) (Gst.trans (Gst.only [2] rfl) (Gst.trans (Gst.freezeRow 3 rfl rfl (ReS.cons Re.refl ReS.nil) (ReO.same (ReO.var (ReL.cons (Re.base .all) (ReL.cons Re.refl ReL.nil)) (ReO.var (ReL.cons (Re.base .all) (ReL.cons Re.refl ReL.nil)) (ReO.same ReO.nil))))) (Gst.pick [0,1] rfl rfl))) undef (cV 1 rfl rfl rfl rfl ResL.nil) rfl rfl rfl rfl
 refine T.block ?_;obtain⟨n9,n14⟩:=loop_some ht5;refine T.loop (fun n S'=>∃ S'',Gst S' S''∧∃ y7:Value,∃ s8:Int × (List scan_Field),S''=⟨[(3,(dP (blk p4))),(2,(dP (blk p1))),(0,(dP b0))],[.var b0 [.sl 1 (lB a0),dN s8.1] 267,.var (blk p1) [.val (.slice none 0 0),dN 0] 202,.var (blk p4) [.val y7,dN 0] 202,.row y7 (List.map e_scan_Field s8.2) 4 270],28⟩∧iter (scan_reader_row.l1 a0) n s8=some t5) n9 ?_ ?_
 ·exact⟨_,gP [0,2,3] [0,1,3,2] rfl rfl rfl,v3,(x2.2,[x2.1]),rfl,n14⟩
 rintro n9 _ ⟨_,g,y7,s8,rfl,i13⟩;refine T.ghost g ?_;obtain⟨m10,q11,rfl,q12,i13⟩:=iter_succ i13;unfold scan_reader_row.l1 at q12;refine T.seq ?_;refine aS ?_;refine aA rfl rfl ?_;obtain⟨x16,hx16,q12⟩:=bS q12;refine TL.op1 (OpR.call [0] fn226 (scan_reader_is_c hx16) rfl rfl rfl (fun _=>rfl)) rfl ?_;refine aN rfl ?_;rcases ite_some q12 with ⟨c17,q12⟩|⟨c17,q12⟩;rotate_left
 ·refine T.condF rfl (eq_false_of_ne_true c17) ?_;refine T.exit ?_;obtain rfl:=osi q12;obtain rfl:_=_:=i13;exact⟨_,Gst.only [0,2,3] rfl,y7,rfl⟩
 refine T.condT rfl (c17) ?_;refine aK rfl ?_;refine T.block ?_;refine aS ?_;iterate 3 refine aA rfl rfl ?_
 refine TL.op1 (OpR.loadPtr 0 rfl rfl rfl rfl) rfl ?_;iterate 3 refine aA rfl rfl ?_
 refine TL.op0 (OpR.store 0 rfl rfl rfl rfl rfl rfl rfl rfl) ?_;refine aN rfl ?_;obtain⟨x19,hx19,q12⟩:=bS q12;obtain⟨x20,hx20,q12⟩:=bS q12;refine T.drawS drawsX (fun env18=>[dP (blk p4),.val y7,dP b0,.agg [dN x19.1.fRaw.fAt,dN x19.1.fRaw.fN,dN x19.1.fKind,.sl 2 (List.map e_arena_Span x19.1.fParts)],.sl 4 (List.map e_scan_Field [x19.1]),.val (env18 5),dP (blk p4),.dead]) (fun D env18=>[(bif D 3 then .var b0 [.sl 1 (lB a0),dN x19.2] 267 else .var b0 [.sl 1 (lB a0),dN (w64 (s8.1+1))] 267),.var (blk p1) [.val (.slice none 0 0),dN 0] 202,(bif D 7 then .var (blk p4) [.val (env18 5),dN 0] 202 else .var (blk p4) [.val y7,dN 0] 202),(bif D 5 then .row (env18 5) (List.map e_scan_Field x20) 4 270 else .row y7 (List.map e_scan_Field s8.2) 4 270)]) [0,1,0,4,12,31,63,127] [0,2,3] _ (by decide +kernel) (by decide +kernel) (fun _=>rfl) (fun _=>rfl) ?_ (fun _=>rfl) (fun _=>rfl) ?_;rotate_left
 ·intro env18;obtain rfl:=osi q12;exact⟨m10,Nat.lt_succ_self _,_,Gst.only [0,2,3] rfl,(env18 5),(x19.2,x20),rfl,i13⟩
 refine aC ?_;refine OpsS.cons' true ?_ (fun _ _ _ _ _ _ _=>rfl) ?_
 ·intro D env18 hA;have e5:D 5=false:=hA.no 5 _ rfl rfl;have e7:D 7=false:=hA.no 7 _ rfl rfl;rcases Bool.eq_false_or_eq_true (D 3) with e3|e3
  ·exact OpS.yp [(5,false),(7,false),(3,true)] ⟨e5,e7,e3,trivial⟩ (Want.plain rfl) (OpR.loadPtr 2 rfl rfl rfl rfl) (fun x=>rfl) (fun x=>rfl)
  exact OpS.yp [(5,false),(7,false),(3,false)] ⟨e5,e7,e3,trivial⟩ (Want.plain rfl) (OpR.loadPtr 2 rfl rfl rfl rfl) (fun x=>rfl) (fun x=>rfl)
 refine aC ?_;refine OpsS.cons' true ?_ (fun _ _ _ _ _ _ _=>rfl) ?_
 ·intro D env18 hA;have e5:D 5=false:=hA.no 5 _ rfl rfl;have e7:D 7=false:=hA.no 7 _ rfl rfl;exact OpS.yp [(5,false),(7,false),(3,false)] ⟨e5,e7,hA.me,trivial⟩ (Want.plain rfl) (OpR.call [0] fn225 (scan_reader_field_c hx19) rfl rfl rfl (fun _=>rfl)) (fun x=>rfl) (fun x=>rfl)
 refine oT (.sl 4 (List.map e_scan_Field [x19.1])) (fun _ _=>OpR.lit rfl rfl rfl rfl rfl rfl rfl) ?_;refine OpsS.cons' true ?_ (fun D hA env18 x j hj hD=>match j,hj,hD with|0,_,_=>rfl|1,_,_=>rfl|2,_,_=>rfl|3,_,_=>rfl|4,_,_=>rfl|5,hj,_=>absurd rfl hj|6,_,_=>rfl|7,_,_=>rfl|_+8,_,_=>rfl) ?_
 ·intro D env18 hA;have e3:D 3=true:=hA.yes 3 _ rfl rfl;have e7:D 7=false:=hA.no 7 _ rfl rfl;exact OpS.yp [(3,true),(7,false),(5,false)] ⟨e3,e7,hA.me,trivial⟩ (Want.plain rfl) (OpR.appendM (m:=[x19.1]) e_scan_Field 3 hx20 rfl rfl rfl rfl rfl rfl rfl rfl rfl (fun _=>rfl)) (fun x=>rfl) (fun x=>rfl)
 refine aC ?_;refine OpsS.cons' true ?_ (fun _ _ _ _ _ _ _=>rfl) ?_
 ·intro D env18 hA;have e3:D 3=true:=hA.yes 3 _ rfl rfl;have e5:D 5=true:=hA.yes 5 _ rfl rfl;exact OpS.yp [(3,true),(5,true),(7,false)] ⟨e3,e5,hA.me,trivial⟩ (Want.plain rfl) (OpR.store 2 rfl rfl rfl rfl rfl rfl rfl rfl) (fun x=>rfl) (fun x=>rfl)
 exact trivial
noncomputable def scan_All.l1 (a0:List UInt8) (s5:(List scan_Row) × Int):Option (Lp ((List scan_Row) × Int) (List scan_Row)):=
 bnd (scan_reader_done a0 s5.2) fun x13=>
 if x13=true then
 some (Lp.done s5.1)
else
 bnd (scan_reader_row a0 s5.2) fun x15=>
 bnd (app 32 s5.1 [x15.1]) fun x16=>
 some (Lp.next (x16,x15.2))
noncomputable def scan_All (a0:List UInt8):Option (List scan_Row):=
 bnd (loop (scan_All.l1 a0) ([],0):Option (List scan_Row)) fun t2=>
 some t2
theorem scan_All_c {a0:List UInt8} {res:(List scan_Row)} (h0:scan_All a0=some res):CallF X 130 [.sl 1 (lB a0)] [] (fun x=>.sl 2 (List.map e_scan_Row res)) (fun x=>[]):=by
 unfold scan_All at h0;refine CallF.mkG (X:=X) rfl Tryz.func130 rfl rfl Tryz.ntmps130 rfl rfl ?_;refine aS ?_;refine aA rfl rfl ?_;refine aN rfl ?_;refine aS ?_;refine aA rfl rfl ?_;refine aN rfl ?_;refine T.seq ?_;refine aS ?_;refine aA rfl rfl ?_;refine TL.op1 (OpR.build rfl rfl rfl rfl rfl) rfl ?_;refine TL.op (OpR.boxVar rfl rfl (fun _=>rfl)) rfl (fun p1=>?_);refine aA rfl rfl ?_;refine aN rfl ?_;obtain⟨t2,ht2,h0⟩:=bS h0;refine T.cutC (fun S'=>∃ y3:Value,S'=⟨[(3,.val y3),(2,.val (.slice none 0 0))],[.row y3 (List.map e_scan_Row t2) 2 202],17⟩) (fun _ h=>h) ?_ ?_;rotate_left
 ·rintro _ ⟨y3,rfl⟩;show T X _ _ _;refine aS ?_;iterate 2 refine aA rfl rfl ?_
  refine aN rfl ?_;refine T.ret ?_;obtain rfl:=osi h0;exact PostG.retP (ks:=[]) (Gst.trans (Gst.only [2] rfl) (Gst.trans (Gst.freezeRow 0 rfl rfl (ReS.cons (Re.base .all) ReS.nil) (ReO.same ReO.nil)) (Gst.pick [] rfl rfl))) undef (cT rfl ResL.nil) rfl rfl rfl rfl
 refine T.block ?_;obtain⟨n6,n11⟩:=loop_some ht2;refine T.loop (fun n S'=>∃ S'',Gst S' S''∧∃ y4:Value,∃ s5:(List scan_Row) × Int,S''=⟨[(4,(dP (blk p1))),(3,.val y4),(2,.val (.slice none 0 0))],[.row y4 (List.map e_scan_Row s5.1) 2 202,.var (blk p1) [.sl 1 (lB a0),dN s5.2] 267],17⟩∧iter (scan_All.l1 a0) n s5=some t2) n6 ?_ ?_
 ·exact⟨_,Gst.trans (Gst.only [2,3,4] rfl) (Gst.trans (Gst.nilRow (ow:=[.var (blk p1) [.sl 1 (lB a0),dN 0] 267]) 2 202 rfl) (Gst.pick [1,0] rfl rfl)),(.slice none 0 0),([],0),rfl,n11⟩
 rintro n6 _ ⟨_,g,y4,s5,rfl,i10⟩;refine T.ghost g ?_;obtain⟨m7,q8,rfl,q9,i10⟩:=iter_succ i10;unfold scan_All.l1 at q9;refine T.seq ?_;refine aS ?_;refine aA rfl rfl ?_;obtain⟨x13,hx13,q9⟩:=bS q9;refine TL.op1 (OpR.call [1] fn192 (scan_reader_done_c hx13) rfl rfl rfl (fun _=>rfl)) rfl ?_;refine aA rfl rfl ?_;refine aN rfl ?_;rcases ite_some q9 with ⟨c14,q9⟩|⟨c14,q9⟩
 ·refine T.condF rfl (not_t (c14)) ?_;refine T.exit ?_;obtain rfl:=osi q9;obtain rfl:_=_:=i10;exact⟨_,gP [2,3] [0] rfl rfl rfl,y4,rfl⟩
 refine T.condT rfl (not_f (eq_false_of_ne_true c14)) ?_;refine aK rfl ?_;refine T.block ?_;refine T.region ?_;iterate 2 refine aA rfl rfl ?_
 obtain⟨x15,hx15,q9⟩:=bS q9;refine TL.op1 (OpR.call [1] fn193 (scan_reader_row_c hx15) rfl rfl rfl (fun _=>rfl)) rfl ?_;refine TL.op1 (OpR.lit rfl rfl rfl rfl rfl rfl rfl) rfl ?_;obtain⟨x16,hx16,q9⟩:=bS q9;refine TL.op (OpR.appendM (m:=[x15.1]) e_scan_Row 0 hx16 rfl rfl rfl rfl rfl rfl rfl rfl rfl (fun _=>rfl)) rfl (fun v17=>?_);refine aA rfl rfl ?_;refine TL.nil ?_;obtain rfl:=osi q9;exact⟨m7,Nat.lt_succ_self _,_,Gst.only [2,3,4] rfl,v17,(x16,x15.2),rfl,i10⟩
noncomputable def arena_New_2:Option (Int × (List UInt8)):=
 bnd ((mkc 1 0:Option (List UInt8))) fun x1=>
 some (0,x1)
theorem arena_New_2_c {res:Int × (List UInt8)} (h0:arena_New_2=some res):CallF X 128 [.val (.slice none 0 0)] [] (fun x=>.tup [dP (blk (vn x 0)),dN res.1]) (fun x=>[.var (blk (vn x 0)) [.val (vn x 1)] 264,.row (vn x 1) (lB res.2) 1 5]):=by
 unfold arena_New_2 at h0;refine CallF.mkG (X:=X) rfl Tryz.func128 rfl rfl Tryz.ntmps128 rfl rfl ?_;refine aS ?_;iterate 2 refine aA rfl rfl ?_
 refine aN rfl ?_;refine T.seq ?_;refine aS ?_;iterate 2 refine aA rfl rfl ?_
 refine TL.op1 (OpR.cast (OpR.pure rfl) (boolE (show (decide ((0:Int)>4096))=false by decide))) rfl ?_;refine aN rfl ?_;refine T.condF rfl rfl ?_;refine aK rfl ?_;refine aS ?_;iterate 2 refine aA rfl rfl ?_
 obtain⟨x1,hx1,h0⟩:=bS h0;refine TL.op (OpR.makeC byteD hx1 rfl rfl rfl rfl rfl rfl rfl (fun _=>rfl)) rfl (fun v2=>?_);refine TL.op1 (OpR.build rfl rfl rfl rfl rfl) rfl ?_;refine TL.op (OpR.boxVar rfl rfl (fun _=>rfl)) rfl (fun p3=>?_);refine aA rfl rfl ?_;refine aN rfl ?_;refine aS ?_;iterate 3 refine aA rfl rfl ?_
 refine TL.op1 (OpR.loadPtr 1 rfl rfl rfl rfl) rfl ?_;refine aA rfl rfl ?_;refine TL.op1 (OpR.copyNil 0 rfl rfl rfl rfl rfl rfl) rfl ?_;refine aN rfl ?_;refine aS ?_;iterate 3 refine aA rfl rfl ?_
 refine aN rfl ?_;refine T.ret ?_;obtain rfl:=osi h0;exact rP [0,1] [2,3] [1,0] rfl rfl rfl (.tuple #[p3,v2]) (cT rfl (cT rfl ResL.nil)) rfl rfl rfl rfl
noncomputable def grid_refused (a0:Int):Option (grid_Grid × Int × (List UInt8)):=
 bnd (arena_New_2) fun x2=>
 some ((⟨(⟨none⟩:tTr),false,2⟩:grid_Grid),a0,x2.2)
theorem grid_refused_c {a0:Int} {res:grid_Grid × Int × (List UInt8)} (h0:grid_refused a0=some res):CallF X 129 [dN a0] [] (fun x=>.tup [.agg [(eOP res.1.fRows.fRoot),dT res.1.fTail,dN res.1.fEnd],dP (blk (vn x 0)),dN res.2.1]) (fun x=>[.var (blk (vn x 0)) [.val (vn x 1)] 264,.row (vn x 1) (lB res.2.2) 1 5]):=by
 unfold grid_refused at h0;refine CallF.mkG (X:=X) rfl Tryz.func129 rfl rfl Tryz.ntmps129 rfl rfl ?_;refine aS ?_;refine TL.op (OpR.alloc rfl rfl (fun _=>rfl)) rfl (fun p1=>?_);iterate 2 refine aA rfl rfl ?_
 refine aN rfl ?_;refine aS ?_;obtain⟨x2,hx2,h0⟩:=bS h0;refine TL.op (OpR.call [] fn128 (arena_New_2_c hx2) rfl rfl rfl (fun _=>rfl)) rfl (fun w3=>?_);iterate 5 refine aA rfl rfl ?_
 refine aN rfl ?_;refine aS ?_;refine TL.op1 (OpR.build rfl rfl rfl rfl rfl) rfl ?_;iterate 2 refine aA rfl rfl ?_
 refine TL.op0 (OpR.store 0 rfl rfl rfl rfl rfl rfl rfl rfl) ?_;iterate 2 refine aA rfl rfl ?_
 refine aN rfl ?_;refine T.ret ?_;obtain rfl:=osi h0;exact rO [1,2] [2,3,4] rfl (.tuple #[(vn w3 0),(vn w3 1)]) (cV 0 rfl rfl rfl rfl (cT rfl (cT rfl ResL.nil))) rfl rfl rfl rfl
noncomputable def piece_Text_with_2 (a0:arena_Span) (a1:Int) (a2:List arena_Span):Option (Int × (List arena_Span)):=
 if a0.fN<1 then
 some (a1,a2)
else
 bnd (if (w64 ((a2.length:Int)-1))≥0 then
 bnd (idx a2 (w64 ((a2.length:Int)-1))) fun x7=>
 bnd (arena_Join x7 a0) fun x8=>
 if x8.2=true then
 some (Ex.ret (w64 (a1+a0.fN),(a2.set (w64 ((a2.length:Int)-1)).toNat x8.1)))
else
 some (Ex.brk ())
else
 some (Ex.brk ()):Option (Ex Unit (Int × (List arena_Span)))) fun t3=>match t3 with
| .brk u4=>
 bnd (app 16 a2 [a0]) fun x12=>
 some (w64 (a1+a0.fN),x12)
| .ret u4=>some u4
theorem piece_Text_with_2_c {a0:arena_Span} {a1:Int} {a2:List arena_Span} {b0:Nat} {v1:Value} {res:Int × (List arena_Span)} (h0:piece_Text_with_2 a0 a1 a2=some res):CallF X 254 [dP b0,.agg [dN a0.fAt,dN a0.fN]] [.var b0 [.val v1,dN a1] 140,.row v1 (List.map e_arena_Span a2) 2 142] (fun x=>.tup []) (fun x=>[.var b0 [.val (vn x 0),dN res.1] 140,.row (vn x 0) (List.map e_arena_Span res.2) 2 142]):=by
 unfold piece_Text_with_2 at h0;refine CallF.mkG (X:=X) rfl Tryz.func254 rfl rfl Tryz.ntmps254 rfl rfl ?_;refine aS ?_;refine TL.op1 (OpR.boxImm rfl rfl) rfl ?_;refine aN rfl ?_;refine T.seq ?_;refine aS ?_;iterate 3 refine aA rfl rfl ?_
 refine aN rfl ?_;rcases ite_some h0 with ⟨c1,h0⟩|⟨c1,h0⟩
 ·refine T.condT rfl (eT c1) ?_;refine T.ret ?_;obtain rfl:=osi h0;exact rO [0,1] [] rfl (.tuple #[v1]) ResL.nil rfl rfl rfl rfl
 refine T.condF rfl (eF c1) ?_;refine aK rfl ?_;refine T.seq ?_;refine T.drawS drawsX (fun env2=>[dP b0,dP b0,.val (.pointer (some ⟨b0,1,none⟩)),dN a1,.nod [dN a0.fN],dN a0.fN,dN (w64 (a1+a0.fN)),dP b0,.val (.pointer (some ⟨b0,1,none⟩)),.dead]) (fun D env2=>[(bif D 9 then .var b0 [.val v1,dN (w64 (a1+a0.fN))] 140 else .var b0 [.val v1,dN a1] 140),.row v1 (List.map e_arena_Span a2) 2 142]) [0,1,3,7,0,16,63,127,255,511] [0,3] _ (by decide +kernel) (by decide +kernel) (fun _=>rfl) (fun _=>rfl) ?_ (fun _=>rfl) (fun _=>rfl) ?_
 ·iterate 3 refine aC ?_
  refine OpsS.cons' true ?_ (fun _ _ _ _ _ _ _=>rfl) ?_
  ·intro D env2 hA;have e9:D 9=false:=hA.no 9 _ rfl rfl;exact OpS.yp [(9,false)] ⟨e9,trivial⟩ (Want.plain rfl) (OpR.loadPtr 0 rfl rfl rfl rfl) (fun x=>rfl) (fun x=>rfl)
  iterate 5 refine aC ?_
  refine OpsS.cons' true ?_ (fun _ _ _ _ _ _ _=>rfl) ?_
  ·intro D env2 hA;exact OpS.yp [(9,false)] ⟨hA.me,trivial⟩ (Want.plain rfl) (OpR.store 0 rfl rfl rfl rfl rfl rfl rfl rfl) (fun x=>rfl) (fun x=>rfl)
  exact trivial
 intro env2;show T X _ _ _;refine T.seq ?_;refine aS ?_;iterate 3 refine aA rfl rfl ?_
 refine TL.op1 (OpR.loadPtr 0 rfl rfl rfl rfl) rfl ?_;refine TL.op1 (OpR.rowLenM e_arena_Span 1 rfl rfl rfl rfl) rfl ?_;iterate 2 refine aA rfl rfl ?_
 refine aN rfl ?_;refine aS ?_;iterate 2 refine aA rfl rfl ?_
 refine aN rfl ?_;obtain⟨t3,ht3,h0⟩:=bS h0;refine T.cutC (fun S'=>∃ u4,t3=Ex.brk u4∧S'=⟨[(3,.nod [dN a0.fAt,dN a0.fN]),(0,(dP b0))],[.var b0 [.val v1,dN (w64 (a1+a0.fN))] 140,.row v1 (List.map e_arena_Span a2) 2 142],57⟩) (fun _ h=>h) ?_ ?_;rotate_left
 ·rintro _ ⟨u4,rfl,rfl⟩;show T X _ _ _;obtain⟨x12,hx12,h0⟩:=bS h0;refine T.drawS drawsX (fun env11=>[dP b0,dP b0,dP b0,dP b0,.val v1,.agg [dN a0.fAt,dN a0.fN],.sl 2 (List.map e_arena_Span [a0]),.val (env11 7),dP b0,dP b0,.dead]) (fun D env11=>[(bif D 10 then .var b0 [.val (env11 7),dN (w64 (a1+a0.fN))] 140 else .var b0 [.val v1,dN (w64 (a1+a0.fN))] 140),(bif D 7 then .row (env11 7) (List.map e_arena_Span x12) 2 142 else .row v1 (List.map e_arena_Span a2) 2 142)]) [0,0,2,6,14,0,32,126,255,511,1023] [] _ (by decide +kernel) (by decide +kernel) (fun _=>rfl) (fun _=>rfl) ?_ (fun _=>rfl) (fun _=>rfl) ?_;rotate_left
  ·intro env11;obtain rfl:=osi h0;exact PostG.finP (ks:=[0,1]) (Gst.only [] rfl) (.tuple #[(env11 7)]) ResL.nil rfl rfl rfl rfl
  iterate 4 refine aC ?_
  refine OpsS.cons' true ?_ (fun _ _ _ _ _ _ _=>rfl) ?_
  ·intro D env11 hA;have e7:D 7=false:=hA.no 7 _ rfl rfl;have e10:D 10=false:=hA.no 10 _ rfl rfl;exact OpS.yp [(7,false),(10,false)] ⟨e7,e10,trivial⟩ (Want.plain rfl) (OpR.loadPtr 0 rfl rfl rfl rfl) (fun x=>rfl) (fun x=>rfl)
  refine aC ?_;refine oT (.sl 2 (List.map e_arena_Span [a0])) (fun _ _=>OpR.lit rfl rfl rfl rfl rfl rfl rfl) ?_;refine OpsS.cons' true ?_ (fun D hA env11 x j hj hD=>match j,hj,hD with|0,_,_=>rfl|1,_,_=>rfl|2,_,_=>rfl|3,_,_=>rfl|4,_,_=>rfl|5,_,_=>rfl|6,_,_=>rfl|7,hj,_=>absurd rfl hj|8,_,_=>rfl|9,_,_=>rfl|10,_,_=>rfl|_+11,_,_=>rfl) ?_
  ·intro D env11 hA;have e10:D 10=false:=hA.no 10 _ rfl rfl;exact OpS.yp [(10,false),(7,false)] ⟨e10,hA.me,trivial⟩ (Want.plain rfl) (OpR.appendM (m:=[a0]) e_arena_Span 1 hx12 rfl rfl rfl rfl rfl rfl rfl rfl rfl (fun _=>rfl)) (fun x=>rfl) (fun x=>rfl)
  iterate 2 refine aC ?_
  refine OpsS.cons' true ?_ (fun _ _ _ _ _ _ _=>rfl) ?_
  ·intro D env11 hA;have e7:D 7=true:=hA.yes 7 _ rfl rfl;exact OpS.yp [(7,true),(10,false)] ⟨e7,hA.me,trivial⟩ (Want.plain rfl) (OpR.store 0 rfl rfl rfl rfl rfl rfl rfl rfl) (fun x=>rfl) (fun x=>rfl)
  exact trivial
 rcases ite_some ht3 with ⟨c5,ht3⟩|⟨c5,ht3⟩;rotate_left
 ·refine T.condF rfl (eF c5) ?_;refine T.skip ?_;obtain rfl:=osi ht3;exact⟨_,Gst.only [0,3] rfl,_,rfl,rfl⟩
 refine T.condT rfl (eT c5) ?_;refine T.seq ?_;obtain⟨x7,hx7,ht3⟩:=bS ht3;obtain⟨x8,hx8,ht3⟩:=bS ht3;refine T.drawS drawsX (fun env6=>[dP b0,dP b0,dP b0,.val v1,dN (w64 ((a2.length:Int)-1)),.val (.pointer (some ⟨blk v1,(w64 ((a2.length:Int)-1)).toNat*2,none⟩)),.agg [dN x7.fAt,dN x7.fN],.agg [dN a0.fAt,dN a0.fN],.tup [.agg [dN x8.1.fAt,dN x8.1.fN],dT x8.2],.tup [.agg [dN x8.1.fAt,dN x8.1.fN],dT x8.2],.agg [dN x8.1.fAt,dN x8.1.fN],dT x8.2,dP (blk (env6 12)),.dead,dT x8.2]) (fun D env6=>[.var b0 [.val v1,dN (w64 (a1+a0.fN))] 140,.row v1 (List.map e_arena_Span a2) 2 142]++(bif D 12 then [(bif D 13 then .var (blk (env6 12)) [dN x8.1.fAt,dN x8.1.fN] 142 else .var (blk (env6 12)) [dN 0,dN 0] 142)] else [])) [0,1,3,7,0,31,63,0,255,511,1023,1023,0,6143,16383] [0,3,4,5,6] _ (by decide +kernel) (by decide +kernel) (fun _=>rfl) (fun _=>rfl) ?_ (fun _=>rfl) (fun _=>rfl) ?_;rotate_left
 ·intro env6;show T X _ _ _;refine aS ?_;refine aA rfl rfl ?_;refine aN rfl ?_;rcases ite_some ht3 with ⟨c9,ht3⟩|⟨c9,ht3⟩;rotate_left
  ·refine T.condF rfl (eq_false_of_ne_true c9) ?_;refine T.skip ?_;obtain rfl:=osi ht3;exact⟨_,gP [0,3] [0,1] rfl rfl rfl,_,rfl,rfl⟩
  refine T.condT rfl (c9) ?_;refine T.seq ?_;refine T.drawS drawsX (fun env10=>[dP b0,dP b0,dP b0,.val v1,dN (w64 ((a2.length:Int)-1)),.agg [dN x8.1.fAt,dN x8.1.fN],.val (.pointer (some ⟨blk v1,(w64 ((a2.length:Int)-1)).toNat*2,none⟩)),.dead]) (fun D env10=>[.var b0 [.val v1,dN (w64 (a1+a0.fN))] 140,(bif D 7 then .row v1 (List.map e_arena_Span (a2.set (w64 ((a2.length:Int)-1)).toNat x8.1)) 2 142 else .row v1 (List.map e_arena_Span a2) 2 142),.var (blk (env6 12)) [dN x8.1.fAt,dN x8.1.fN] 142]) [0,1,3,7,0,0,63,127] [0,3] _ (by decide +kernel) (by decide +kernel) (fun _=>rfl) (fun _=>rfl) ?_ (fun _=>rfl) (fun _=>rfl) ?_;rotate_left
  ·intro env10;show T X _ _ _;refine T.ret ?_;obtain rfl:=osi ht3;obtain rfl:=osi h0;exact rP [0,1] [] [0,1] rfl rfl rfl (.tuple #[v1]) ResL.nil rfl rfl rfl rfl
  iterate 3 refine aC ?_
  refine oT (.val v1) (fun _ _=>OpR.loadPtr 0 rfl rfl rfl rfl) ?_;refine aC ?_;refine oT (.agg [dN x8.1.fAt,dN x8.1.fN]) (fun _ _=>OpR.loadPtr 2 rfl rfl rfl rfl) ?_;refine OpsS.cons' true ?_ (fun _ _ _ _ _ _ _=>rfl) ?_
  ·intro D env10 hA;have e7:D 7=false:=hA.no 7 _ rfl rfl;exact OpS.yp [(7,false)] ⟨e7,trivial⟩ (Want.plain rfl) (OpR.rowIndexM e_arena_Span 1 hx7 rfl rfl rfl rfl rfl rfl rfl) (fun x=>rfl) (fun x=>rfl)
  refine OpsS.cons' true ?_ (fun _ _ _ _ _ _ _=>rfl) ?_
  ·intro D env10 hA;exact OpS.yp [(7,false)] ⟨hA.me,trivial⟩ (Want.plain rfl) (OpR.rowStore0M (j:=w64 ((a2.length:Int)-1)) e_arena_Span x8.1 1 hx7 rfl rfl rfl rfl rfl rfl rfl rfl rfl) (fun x=>rfl) (fun x=>rfl)
  exact trivial
 iterate 3 refine aC ?_
 refine oT (.val v1) (fun _ _=>OpR.loadPtr 0 rfl rfl rfl rfl) ?_;refine aC ?_;refine oT (.val (.pointer (some ⟨blk v1,(w64 ((a2.length:Int)-1)).toNat*2,none⟩))) (fun _ _=>OpR.rowIndexM e_arena_Span 1 hx7 rfl rfl rfl rfl rfl rfl rfl) ?_;refine oT (.agg [dN x7.fAt,dN x7.fN]) (fun _ _=>OpR.rowLoad0M (j:=w64 ((a2.length:Int)-1)) e_arena_Span 1 hx7 rfl rfl rfl rfl) ?_;refine aC ?_;refine oT (.tup [.agg [dN x8.1.fAt,dN x8.1.fN],dT x8.2]) (fun _ _=>OpR.call0 fn271 (arena_Join_c hx8) rfl) ?_;iterate 3 refine aC ?_
 refine OpsS.cons' true ?_ (fun D hA env6 x j hj hD=>match j,hj,hD with|0,_,_=>rfl|1,_,_=>rfl|2,_,_=>rfl|3,_,_=>rfl|4,_,_=>rfl|5,_,_=>rfl|6,_,_=>rfl|7,_,_=>rfl|8,_,_=>rfl|9,_,_=>rfl|10,_,_=>rfl|11,_,_=>rfl|12,hj,_=>absurd rfl hj|13,_,_=>rfl|14,_,_=>rfl|_+15,_,_=>rfl) ?_
 ·intro D env6 hA;have e13:D 13=false:=hA.no 13 _ rfl rfl;exact OpS.yp [(13,false),(12,false)] ⟨e13,hA.me,trivial⟩ (Want.plain rfl) (OpR.alloc rfl rfl (fun _=>rfl)) (fun x=>rfl) (fun x=>rfl)
 refine OpsS.cons' true ?_ (fun _ _ _ _ _ _ _=>rfl) ?_
 ·intro D env6 hA;have e12:D 12=true:=hA.yes 12 _ rfl rfl;exact OpS.yp [(12,true),(13,false)] ⟨e12,hA.me,trivial⟩ (Want.plain rfl) (OpR.store 2 rfl rfl rfl rfl rfl rfl rfl rfl) (fun x=>rfl) (fun x=>rfl)
 refine aC ?_;exact trivial
noncomputable def piece_Of.l1 (a0:List arena_Span) (s6:Int × Int × (List arena_Span)):Option (Lp (Int × Int × (List arena_Span)) (Int × (List arena_Span))):=
 if s6.1<(a0.length:Int) then
 bnd (idx a0 s6.1) fun x15=>
 bnd (piece_Text_with_2 x15 s6.2.1 s6.2.2) fun x17=>
 some (Lp.next (w64 (s6.1+1),x17.1,x17.2))
else
 some (Lp.done (s6.2.1,s6.2.2))
noncomputable def piece_Of (a0:List arena_Span):Option piece_Text:=
 bnd (loop (piece_Of.l1 a0) (0,0,[]):Option (Int × (List arena_Span))) fun t3=>
 some (⟨t3.2,t3.1⟩:piece_Text)
theorem piece_Of_c {a0:List arena_Span} {res:piece_Text} (h0:piece_Of a0=some res):CallF X 228 [.sl 2 (List.map e_arena_Span a0)] [] (fun x=>.agg [.sl 2 (List.map e_arena_Span res.fL),dN res.fN]) (fun x=>[]):=by
 unfold piece_Of at h0;refine CallF.mkG (X:=X) rfl Tryz.func228 rfl rfl Tryz.ntmps228 rfl rfl ?_;refine aS ?_;refine TL.op (OpR.alloc rfl rfl (fun _=>rfl)) rfl (fun p1=>?_);refine aN rfl ?_;refine aS ?_;refine TL.op (OpR.alloc rfl rfl (fun _=>rfl)) rfl (fun p2=>?_);refine aN rfl ?_;refine T.seq ?_;refine aS ?_;refine aA rfl rfl ?_;refine TL.op1 (OpR.cast (OpR.pure rfl) (intE (lenM _ _))) rfl ?_;refine aA rfl rfl ?_;refine aN rfl ?_;obtain⟨t3,ht3,h0⟩:=bS h0;refine T.cutC (fun S'=>∃ y4:Value,S'=⟨[(3,(dP (blk p2))),(2,(dP (blk p1)))],[.var (blk p1) [.val (.slice none 0 0),dN 0] 140,.var (blk p2) [.val y4,dN t3.1] 140,.row y4 (List.map e_arena_Span t3.2) 2 142],16⟩) (fun _ h=>h) ?_ ?_;rotate_left
 ·rintro _ ⟨y4,rfl⟩;show T X _ _ _;refine aS ?_;refine TL.op1 (OpR.loadPtr 1 rfl rfl rfl rfl) rfl ?_;refine TL.op0 (OpR.store 0 rfl rfl rfl rfl rfl rfl rfl rfl) ?_;refine aN rfl ?_;refine T.ret ?_;obtain rfl:=osi h0;exact PostG.retP (ks:=[]) (Gst.trans (Gst.only [2] rfl) (Gst.trans (Gst.freezeRow 2 rfl rfl (ReS.cons Re.refl ReS.nil) (ReO.var (ReL.cons (Re.base .all) (ReL.cons Re.refl ReL.nil)) (ReO.var (ReL.cons (Re.base .all) (ReL.cons Re.refl ReL.nil)) (ReO.same ReO.nil)))) (Gst.pick [0] rfl rfl))) undef (cV 0 rfl rfl rfl rfl ResL.nil) rfl rfl rfl rfl
 refine T.block ?_;obtain⟨n7,n12⟩:=loop_some ht3;refine T.loop (fun n S'=>∃ S'',Gst S' S''∧∃ y5:Value,∃ s6:Int × Int × (List arena_Span),S''=⟨[(8,(dN s6.1)),(7,(dN (a0.length:Int))),(6,.sl 2 (List.map e_arena_Span a0)),(3,(dP (blk p2))),(2,(dP (blk p1)))],[.var (blk p1) [.val (.slice none 0 0),dN 0] 140,.var (blk p2) [.val y5,dN s6.2.1] 140,.row y5 (List.map e_arena_Span s6.2.2) 2 142],16⟩∧iter (piece_Of.l1 a0) n s6=some t3) n7 ?_ ?_
 ·exact⟨_,Gst.trans (Gst.only [2,3,6,7,8] rfl) (Gst.nilRow (ow:=[.var (blk p1) [.val (.slice none 0 0),dN 0] 140,.var (blk p2) [.val (.slice none 0 0),dN 0] 140]) 2 142 rfl),(.slice none 0 0),(0,0,[]),rfl,n12⟩
 rintro n7 _ ⟨_,g,y5,s6,rfl,i11⟩;refine T.ghost g ?_;obtain⟨m8,q9,rfl,q10,i11⟩:=iter_succ i11;unfold piece_Of.l1 at q10;refine aS ?_;refine aA rfl rfl ?_;refine aN rfl ?_;refine T.seq ?_;rcases ite_some q10 with ⟨c14,q10⟩|⟨c14,q10⟩;rotate_left
 ·refine T.condF rfl (eF c14) ?_;refine T.exit ?_;obtain rfl:=osi q10;obtain rfl:_=_:=i11;exact⟨_,Gst.only [2,3] rfl,y5,rfl⟩
 refine T.condT rfl (eT c14) ?_;refine aK rfl ?_;refine T.seq ?_;refine T.block ?_;refine aS ?_;obtain⟨x15,hx15,q10⟩:=bS q10;refine TL.op1 (OpR.indexM e_arena_Span hx15 rfl rfl rfl rfl rfl) rfl ?_;refine aA rfl rfl ?_;refine TL.op (OpR.alloc rfl rfl (fun _=>rfl)) rfl (fun p16=>?_);refine TL.op0 (OpR.store 3 rfl rfl rfl rfl rfl rfl rfl rfl) ?_;refine aN rfl ?_;refine T.region ?_;refine TL.op1 (OpR.loadPtr 3 rfl rfl rfl rfl) rfl ?_;obtain⟨x17,hx17,q10⟩:=bS q10;refine TL.op (OpR.call [1,2] fn254 (piece_Text_with_2_c hx17) rfl rfl rfl (fun _=>rfl)) rfl (fun w18=>?_);refine aN rfl ?_;refine T.region ?_;iterate 2 refine aA rfl rfl ?_
 refine TL.nil ?_;obtain rfl:=osi q10;exact⟨m8,Nat.lt_succ_self _,_,gP [2,3,6,7,8] [0,1,2] rfl rfl rfl,(vn w18 0),(w64 (s6.1+1),x17.1,x17.2),rfl,i11⟩
noncomputable def cell_Load (a0:scan_Field):Option cell_Cell:=
 bnd (piece_Of a0.fParts) fun x3=>
 some (⟨x3,a0.fRaw,true⟩:cell_Cell)
theorem cell_Load_c {a0:scan_Field} {res:cell_Cell} (h0:cell_Load a0=some res):CallF X 194 [.agg [dN a0.fRaw.fAt,dN a0.fRaw.fN,dN a0.fKind,.sl 2 (List.map e_arena_Span a0.fParts)]] [] (fun x=>.agg [.sl 2 (List.map e_arena_Span res.fText.fL),dN res.fText.fN,dN res.fRaw.fAt,dN res.fRaw.fN,dT res.fKept]) (fun x=>[]):=by
 unfold cell_Load at h0;refine CallF.mkG (X:=X) rfl Tryz.func194 rfl rfl Tryz.ntmps194 rfl rfl ?_;refine aS ?_;refine TL.op1 (OpR.boxImm rfl rfl) rfl ?_;refine TL.op (OpR.alloc rfl rfl (fun _=>rfl)) rfl (fun p1=>?_);refine aN rfl ?_;refine T.seq ?_;obtain⟨x3,hx3,h0⟩:=bS h0;refine T.drawS drawsX (fun env2=>[.nod [.sl 2 (List.map e_arena_Span a0.fParts)],.sl 2 (List.map e_arena_Span a0.fParts),.agg [.sl 2 (List.map e_arena_Span x3.fL),dN x3.fN],.nod [dN a0.fRaw.fAt,dN a0.fRaw.fN,dN a0.fKind,.sl 2 (List.map e_arena_Span a0.fParts)],.agg [dN a0.fRaw.fAt,dN a0.fRaw.fN],.agg [.sl 2 (List.map e_arena_Span x3.fL),dN x3.fN,dN a0.fRaw.fAt,dN a0.fRaw.fN,dT true],.dead]) (fun D env2=>[(bif D 6 then .var (blk p1) [.sl 2 (List.map e_arena_Span x3.fL),dN x3.fN,dN a0.fRaw.fAt,dN a0.fRaw.fN,dT true] 144 else .var (blk p1) [.val (.slice none 0 0),dN 0,dN 0,dN 0,dT false] 144)]) [0,1,3,0,8,31,63] [2] _ (by decide +kernel) (by decide +kernel) (fun _=>rfl) (fun _=>rfl) ?_ (fun _=>rfl) (fun _=>rfl) ?_;rotate_left
 ·intro env2;show T X _ _ _;refine T.ret ?_;obtain rfl:=osi h0;exact rO [] [2] rfl undef (cV 0 rfl rfl rfl rfl ResL.nil) rfl rfl rfl rfl
 iterate 2 refine aC ?_
 refine oT (.agg [.sl 2 (List.map e_arena_Span x3.fL),dN x3.fN]) (fun _ _=>OpR.call0 fn228 (piece_Of_c hx3) rfl) ?_;iterate 2 refine aC ?_
 refine oT (.agg [.sl 2 (List.map e_arena_Span x3.fL),dN x3.fN,dN a0.fRaw.fAt,dN a0.fRaw.fN,dT true]) (fun _ _=>OpR.build rfl rfl rfl rfl rfl) ?_;refine OpsS.cons' true ?_ (fun _ _ _ _ _ _ _=>rfl) ?_
 ·intro D env2 hA;exact OpS.yp [(6,false)] ⟨hA.me,trivial⟩ (Want.plain rfl) (OpR.store 0 rfl rfl rfl rfl rfl rfl rfl rfl) (fun x=>rfl) (fun x=>rfl)
 exact trivial
noncomputable def piece_Text_Len (a0:piece_Text):Option Int:=
 some a0.fN
theorem piece_Text_Len_c {a0:piece_Text} {res:Int} (h0:piece_Text_Len a0=some res):CallF X 195 [.agg [.sl 2 (List.map e_arena_Span a0.fL),dN a0.fN]] [] (fun x=>(dN res)) (fun x=>[]):=by
 unfold piece_Text_Len at h0;refine CallF.mkG (X:=X) rfl Tryz.func195 rfl rfl Tryz.ntmps195 rfl rfl ?_;refine aS ?_;refine TL.op1 (OpR.boxImm rfl rfl) rfl ?_;refine aA rfl rfl ?_;refine aN rfl ?_;refine aS ?_;iterate 3 refine aA rfl rfl ?_
 refine aN rfl ?_;refine T.ret ?_;obtain rfl:=osi h0;exact rO [] [2] rfl undef (cT rfl ResL.nil) rfl rfl rfl rfl
noncomputable def row_Load.l1 (a0:scan_Row) (s7:Int × (List cell_Cell)):Option (Lp (Int × (List cell_Cell)) (Ex (List cell_Cell) (row_Row × Int))):=
 if s7.1<(a0.fFields.length:Int) then
 bnd (idx a0.fFields s7.1) fun x16=>
 bnd (cell_Load x16) fun x19=>
 bnd (idx s7.2 s7.1) fun x20=>
 bnd (idx (s7.2.set s7.1.toNat x19) s7.1) fun x21=>
 bnd (piece_Text_Len x21.fText) fun x22=>
 if x22>400 then
 some (Lp.done (Ex.ret ((⟨[],0,false⟩:row_Row),7)))
else
 some (Lp.next (w64 (s7.1+1),(s7.2.set s7.1.toNat x19)))
else
 some (Lp.done (Ex.brk s7.2))
noncomputable def row_Load (a0:scan_Row):Option (row_Row × Int):=
 if (a0.fFields.length:Int)>40 then
 some ((⟨[],0,false⟩:row_Row),6)
else
 bnd (mkz 56 (a0.fFields.length:Int) ((⟨(⟨[],0⟩:piece_Text),(⟨0,0⟩:arena_Span),false⟩:cell_Cell):cell_Cell)) fun x4=>
 bnd (loop (row_Load.l1 a0) (0,x4):Option (Ex (List cell_Cell) (row_Row × Int))) fun t5=>match t5 with
| .brk u6=>
 some ((⟨u6,a0.fEnd,false⟩:row_Row),0)
| .ret u6=>some u6
theorem row_Load_c {a0:scan_Row} {res:row_Row × Int} (h0:row_Load a0=some res):CallF X 131 [.agg [.sl 4 (List.map e_scan_Field a0.fFields),dN a0.fEnd]] [] (fun x=>.tup [.agg [.sl 5 (List.map e_cell_Cell res.1.fCells),dN res.1.fEnd,dT res.1.fHidden],dN res.2]) (fun x=>[]):=by
 unfold row_Load at h0;refine CallF.mkG (X:=X) rfl Tryz.func131 rfl rfl Tryz.ntmps131 rfl rfl ?_;refine aS ?_;refine TL.op1 (OpR.boxImm rfl rfl) rfl ?_;refine TL.op (OpR.alloc rfl rfl (fun _=>rfl)) rfl (fun p1=>?_);refine aA rfl rfl ?_;refine aN rfl ?_;refine T.seq ?_;refine aS ?_;iterate 2 refine aA rfl rfl ?_
 refine TL.op1 (OpR.cast (OpR.pure rfl) (intE (lenM _ _))) rfl ?_;refine aA rfl rfl ?_;refine aN rfl ?_;rcases ite_some h0 with ⟨c2,h0⟩|⟨c2,h0⟩
 ·refine T.condT rfl (eT c2) ?_;refine aS ?_;refine TL.op1 (OpR.build rfl rfl rfl rfl rfl) rfl ?_;refine TL.op0 (OpR.store 0 rfl rfl rfl rfl rfl rfl rfl rfl) ?_;refine aA rfl rfl ?_;refine aN rfl ?_;refine T.ret ?_;obtain rfl:=osi h0;exact PostG.retP (ks:=[]) (Gst.trans (Gst.only [2,3] rfl) (Gst.denil (ReS.cons Re.refl (ReS.cons Re.refl ReS.nil)) (ReO.var (ReL.cons (Re.base .nil) (ReL.cons Re.refl (ReL.cons Re.refl ReL.nil))) ReO.nil))) undef (cV 0 rfl rfl rfl rfl (cT rfl ResL.nil)) rfl rfl rfl rfl
 refine T.condF rfl (eF c2) ?_;refine aK rfl ?_;refine T.seq ?_;obtain⟨x4,hx4,h0⟩:=bS h0;refine T.drawS drawsX (fun env3=>[.nod [.sl 4 (List.map e_scan_Field a0.fFields),dN a0.fEnd],.sl 4 (List.map e_scan_Field a0.fFields),dN (a0.fFields.length:Int),.val (env3 3),.nod [dN a0.fEnd],dN a0.fEnd,.agg [.val (env3 3),dN a0.fEnd,dT false],dP (blk (env3 7)),.dead]) (fun D env3=>[.var (blk p1) [.val (.slice none 0 0),dN 0,dT false] 49]++(bif D 3 then [.row (env3 3) (List.map e_cell_Cell x4) 5 144] else [])++(bif D 7 then [(bif D 8 then .var (blk (env3 7)) [.val (env3 3),dN a0.fEnd,dT false] 49 else .var (blk (env3 7)) [.val (.slice none 0 0),dN 0,dT false] 49)] else [])) [0,1,3,7,0,16,63,0,255] [1,2,3,4] _ (by decide +kernel) (by decide +kernel) (fun _=>rfl) (fun _=>rfl) ?_ (fun _=>rfl) (fun _=>rfl) ?_
 ·iterate 2 refine aC ?_
  refine oT ((dN (a0.fFields.length:Int))) (fun _ _=>OpR.cast (OpR.pure rfl) (intE (lenM _ _))) ?_;refine OpsS.cons' true ?_ (fun D hA env3 x j hj hD=>match j,hj,hD with|0,_,_=>rfl|1,_,_=>rfl|2,_,_=>rfl|3,hj,_=>absurd rfl hj|4,_,_=>rfl|5,_,_=>rfl|6,_,hD=>absurd hD (by rw[hA.no 6 _ rfl rfl]; decide)|7,_,_=>rfl|8,_,_=>rfl|_+9,_,_=>rfl) ?_
  ·intro D env3 hA;have e8:D 8=false:=hA.no 8 _ rfl rfl;rcases Bool.eq_false_or_eq_true (D 7) with e7|e7;rotate_left
   ·exact OpS.yp [(8,false),(7,false),(3,false)] ⟨e8,e7,hA.me,trivial⟩ (Want.plain rfl) (OpR.makeN e_cell_Cell hx4 rfl rfl rfl rfl rfl rfl rfl rfl rfl rfl (ReL.cons (Re.base .nil) (ReL.cons Re.refl (ReL.cons Re.refl (ReL.cons Re.refl (ReL.cons Re.refl ReL.nil))))) rfl (fun _=>rfl)) (fun x=>rfl) (fun x=>rfl)
   exact OpS.yp [(8,false),(7,true),(3,false)] ⟨e8,e7,hA.me,trivial⟩ (Want.plain rfl) (OpR.pick [0,2,1] (OpR.makeN e_cell_Cell hx4 rfl rfl rfl rfl rfl rfl rfl rfl rfl rfl (ReL.cons (Re.base .nil) (ReL.cons Re.refl (ReL.cons Re.refl (ReL.cons Re.refl (ReL.cons Re.refl ReL.nil))))) rfl (fun _=>rfl)) (fun _=>rfl) rfl) (fun x=>rfl) (fun x=>rfl)
  iterate 2 refine aC ?_
  refine OpsS.cons' true (fun D env3 hA=>OpS.same (d:=.agg [.val (env3 3),dN a0.fEnd,dT false]) (Want.plain rfl) (fun x=>rfl) (fun x=>rfl) (OpR.build rfl rfl rfl rfl rfl)) (fun _ _ _ _ _ _ _=>rfl) ?_;refine OpsS.cons' true ?_ (fun D hA env3 x j hj hD=>match j,hj,hD with|0,_,_=>rfl|1,_,_=>rfl|2,_,_=>rfl|3,_,_=>rfl|4,_,_=>rfl|5,_,_=>rfl|6,_,_=>rfl|7,hj,_=>absurd rfl hj|8,_,_=>rfl|_+9,_,_=>rfl) ?_
  ·intro D env3 hA;have e8:D 8=false:=hA.no 8 _ rfl rfl;rcases Bool.eq_false_or_eq_true (D 3) with e3|e3
   ·exact OpS.yp [(8,false),(3,true),(7,false)] ⟨e8,e3,hA.me,trivial⟩ (Want.plain rfl) (OpR.alloc rfl rfl (fun _=>rfl)) (fun x=>rfl) (fun x=>rfl)
   exact OpS.yp [(8,false),(3,false),(7,false)] ⟨e8,e3,hA.me,trivial⟩ (Want.plain rfl) (OpR.alloc rfl rfl (fun _=>rfl)) (fun x=>rfl) (fun x=>rfl)
  refine OpsS.cons' true ?_ (fun _ _ _ _ _ _ _=>rfl) ?_
  ·intro D env3 hA;have e3:D 3=true:=hA.yes 3 _ rfl rfl;have e7:D 7=true:=hA.yes 7 _ rfl rfl;exact OpS.yp [(3,true),(7,true),(8,false)] ⟨e3,e7,hA.me,trivial⟩ (Want.plain rfl) (OpR.store 2 rfl rfl rfl rfl rfl rfl rfl rfl) (fun x=>rfl) (fun x=>rfl)
  exact trivial
 intro env3;show T X _ _ _;refine T.seq ?_;refine aS ?_;iterate 2 refine aA rfl rfl ?_
 refine TL.op1 (OpR.cast (OpR.pure rfl) (intE (lenM _ _))) rfl ?_;refine aA rfl rfl ?_;refine aN rfl ?_;obtain⟨t5,ht5,h0⟩:=bS h0;refine T.cutC (fun S'=>∃ u6,t5=Ex.brk u6∧S'=⟨[(4,(dP (blk (env3 7)))),(3,(dN 0)),(2,(dP (blk p1)))],[.var (blk p1) [.val (.slice none 0 0),dN 0,dT false] 49,.var (blk (env3 7)) [.val (env3 3),dN a0.fEnd,dT false] 49,.row (env3 3) (List.map e_cell_Cell u6) 5 144],44⟩) (fun _ h=>h) ?_ ?_;rotate_left
 ·rintro _ ⟨u6,rfl,rfl⟩;show T X _ _ _;refine aS ?_;refine TL.op1 (OpR.loadPtr 1 rfl rfl rfl rfl) rfl ?_;refine TL.op0 (OpR.store 0 rfl rfl rfl rfl rfl rfl rfl rfl) ?_;refine aA rfl rfl ?_;refine aN rfl ?_;refine T.ret ?_;obtain rfl:=osi h0;exact PostG.retP (ks:=[]) (Gst.trans (Gst.only [2,3] rfl) (Gst.trans (Gst.freezeRow 2 rfl rfl (ReS.cons Re.refl (ReS.cons Re.refl ReS.nil)) (ReO.var (ReL.cons (Re.base .all) (ReL.cons Re.refl (ReL.cons Re.refl ReL.nil))) (ReO.var (ReL.cons (Re.base .all) (ReL.cons Re.refl (ReL.cons Re.refl ReL.nil))) (ReO.same ReO.nil)))) (Gst.pick [0] rfl rfl))) undef (cV 0 rfl rfl rfl rfl (cT rfl ResL.nil)) rfl rfl rfl rfl
 refine T.block ?_;obtain⟨n8,n13⟩:=loop_some ht5;refine T.loop (fun n S'=>∃ S'',Gst S' S''∧∃ s7:Int × (List cell_Cell),S''=⟨[(22,(dN s7.1)),(21,(dN (a0.fFields.length:Int))),(20,.sl 4 (List.map e_scan_Field a0.fFields)),(4,(dP (blk (env3 7)))),(3,(dN 0)),(2,(dP (blk p1)))],[.var (blk p1) [.val (.slice none 0 0),dN 0,dT false] 49,.var (blk (env3 7)) [.val (env3 3),dN a0.fEnd,dT false] 49,.row (env3 3) (List.map e_cell_Cell s7.2) 5 144],44⟩∧iter (row_Load.l1 a0) n s7=some t5) n8 ?_ ?_
 ·exact⟨_,gP [2,3,4,20,21,22] [0,2,1] rfl rfl rfl,(0,x4),rfl,n13⟩
 rintro n8 _ ⟨_,g,s7,rfl,i12⟩;refine T.ghost g ?_;obtain⟨m9,q10,rfl,q11,i12⟩:=iter_succ i12;unfold row_Load.l1 at q11;refine aS ?_;refine aA rfl rfl ?_;refine aN rfl ?_;refine T.seq ?_;rcases ite_some q11 with ⟨c15,q11⟩|⟨c15,q11⟩;rotate_left
 ·refine T.condF rfl (eF c15) ?_;refine T.exit ?_;obtain rfl:=osi q11;obtain rfl:_=_:=i12;exact⟨_,Gst.only [2,3,4] rfl,_,rfl,rfl⟩
 refine T.condT rfl (eT c15) ?_;refine aK rfl ?_;refine T.seq ?_;refine T.block ?_;refine aS ?_;refine aA rfl rfl ?_;obtain⟨x16,hx16,q11⟩:=bS q11;refine TL.op1 (OpR.indexM e_scan_Field hx16 rfl rfl rfl rfl rfl) rfl ?_;refine aA rfl rfl ?_;refine TL.op (OpR.alloc rfl rfl (fun _=>rfl)) rfl (fun p17=>?_);refine aA rfl rfl ?_;refine TL.op0 (OpR.store 3 rfl rfl rfl rfl rfl rfl rfl rfl) ?_;refine aN rfl ?_;refine T.seq ?_;obtain⟨x19,hx19,q11⟩:=bS q11;obtain⟨x20,hx20,q11⟩:=bS q11;refine T.drawS drawsX (fun env18=>[dP (blk (env3 7)),.val (env3 3),dN s7.1,.agg [dN x16.fRaw.fAt,dN x16.fRaw.fN,dN x16.fKind,.sl 2 (List.map e_arena_Span x16.fParts)],.agg [.sl 2 (List.map e_arena_Span x19.fText.fL),dN x19.fText.fN,dN x19.fRaw.fAt,dN x19.fRaw.fN,dT x19.fKept],.val (.pointer (some ⟨blk (env3 3),s7.1.toNat*5,none⟩)),.dead]) (fun D env18=>[.var (blk p1) [.val (.slice none 0 0),dN 0,dT false] 49,.var (blk (env3 7)) [.val (env3 3),dN a0.fEnd,dT false] 49,(bif D 6 then .row (env3 3) (List.map e_cell_Cell (s7.2.set s7.1.toNat x19)) 5 144 else .row (env3 3) (List.map e_cell_Cell s7.2) 5 144),.var (blk p17) [dN x16.fRaw.fAt,dN x16.fRaw.fN,dN x16.fKind,.sl 2 (List.map e_arena_Span x16.fParts)] 270]) [0,1,0,0,8,31,63] [2,3,4,5,20,21,22] _ (by decide +kernel) (by decide +kernel) (fun _=>rfl) (fun _=>rfl) ?_ (fun _=>rfl) (fun _=>rfl) ?_
 ·refine aC ?_;refine oT (.val (env3 3)) (fun _ _=>OpR.loadPtr 1 rfl rfl rfl rfl) ?_;refine aC ?_;refine oT (.agg [dN x16.fRaw.fAt,dN x16.fRaw.fN,dN x16.fKind,.sl 2 (List.map e_arena_Span x16.fParts)]) (fun _ _=>OpR.loadPtr 3 rfl rfl rfl rfl) ?_;refine oT (.agg [.sl 2 (List.map e_arena_Span x19.fText.fL),dN x19.fText.fN,dN x19.fRaw.fAt,dN x19.fRaw.fN,dT x19.fKept]) (fun _ _=>OpR.call0 fn194 (cell_Load_c hx19) rfl) ?_;refine OpsS.cons' true ?_ (fun _ _ _ _ _ _ _=>rfl) ?_
  ·intro D env18 hA;have e6:D 6=false:=hA.no 6 _ rfl rfl;exact OpS.yp [(6,false)] ⟨e6,trivial⟩ (Want.plain rfl) (OpR.rowIndexM e_cell_Cell 2 hx20 rfl rfl rfl rfl rfl rfl rfl) (fun x=>rfl) (fun x=>rfl)
  refine OpsS.cons' true ?_ (fun _ _ _ _ _ _ _=>rfl) ?_
  ·intro D env18 hA;exact OpS.yp [(6,false)] ⟨hA.me,trivial⟩ (Want.plain rfl) (OpR.rowStore0M (j:=s7.1) e_cell_Cell x19 2 hx20 rfl rfl rfl rfl rfl rfl rfl rfl rfl) (fun x=>rfl) (fun x=>rfl)
  exact trivial
 intro env18;show T X _ _ _;refine aS ?_;refine aA rfl rfl ?_;refine TL.op1 (OpR.loadPtr 1 rfl rfl rfl rfl) rfl ?_;refine aA rfl rfl ?_;obtain⟨x21,hx21,q11⟩:=bS q11;refine TL.op1 (OpR.rowIndexM e_cell_Cell 2 hx21 rfl rfl rfl rfl rfl rfl rfl) rfl ?_;refine aA rfl rfl ?_;refine TL.op1 (OpR.rowLoad0M (j:=s7.1) e_cell_Cell 2 hx21 rfl rfl rfl rfl) rfl ?_;obtain⟨x22,hx22,q11⟩:=bS q11;refine TL.op1 (OpR.call0 fn195 (piece_Text_Len_c hx22) rfl) rfl ?_;refine aA rfl rfl ?_;refine aN rfl ?_;rcases ite_some q11 with ⟨c23,q11⟩|⟨c23,q11⟩;rotate_left
 ·refine T.condF rfl (eF c23) ?_;refine aK rfl ?_;refine T.region ?_;iterate 2 refine aA rfl rfl ?_
  refine TL.nil ?_;obtain rfl:=osi q11;exact⟨m9,Nat.lt_succ_self _,_,gP [2,3,4,20,21,22] [0,1,2] rfl rfl rfl,(w64 (s7.1+1),(s7.2.set s7.1.toNat x19)),rfl,i12⟩
 refine T.condT rfl (eT c23) ?_;refine aS ?_;refine TL.op1 (OpR.build rfl rfl rfl rfl rfl) rfl ?_;refine TL.op0 (OpR.store 0 rfl rfl rfl rfl rfl rfl rfl rfl) ?_;refine aA rfl rfl ?_;refine aN rfl ?_;refine T.ret ?_;obtain rfl:=osi q11;obtain rfl:_=_:=i12;obtain rfl:=osi h0;exact PostG.retP (ks:=[]) (Gst.trans (Gst.only [2,3] rfl) (Gst.trans (Gst.denil (ReS.cons Re.refl (ReS.cons Re.refl ReS.nil)) (ReO.var (ReL.cons (Re.base .nil) (ReL.cons Re.refl (ReL.cons Re.refl ReL.nil))) (ReO.same (ReO.same (ReO.same ReO.nil))))) (Gst.pick [0] rfl rfl))) undef (cV 0 rfl rfl rfl rfl (cT rfl ResL.nil)) rfl rfl rfl rfl
noncomputable def slices_Clone_row_Row_row_Row (a0:List row_Row):Option (List row_Row):=
 bnd (app 40 [] a0) fun x5=>
 some x5
theorem slices_Clone_row_Row_row_Row_c {a0:List row_Row} {res:(List row_Row)} (h0:slices_Clone_row_Row_row_Row a0=some res):CallF X 191 [.sl 3 (List.map e_row_Row a0)] [] (fun x=>.val (vn x 0)) (fun x=>[.row (vn x 0) (List.map e_row_Row res) 3 49]):=by
 unfold slices_Clone_row_Row_row_Row at h0;refine CallF.mkG (X:=X) rfl Tryz.func191 rfl rfl Tryz.ntmps191 rfl rfl ?_;refine aS ?_;refine aA rfl rfl ?_;refine aN rfl ?_;refine T.seq ?_;refine aS ?_;refine aA rfl rfl ?_;refine TL.isNil rfl rfl rfl rfl (fun b1 e2=>?_);refine aN rfl ?_;rcases Bool.eq_false_or_eq_true b1 with c3|c3
 ·obtain rfl:=map_nil_of (e2 c3);rw[app_nil] at h0;refine T.condT rfl (c3) ?_;refine aS ?_;refine aA rfl rfl ?_;refine aN rfl ?_;refine T.ret ?_;obtain rfl:=osi h0;exact PostG.retP (ks:=[0]) (Gst.trans (Gst.only [2] rfl) (Gst.nilRow (ow:=[]) 3 49 rfl)) (.tuple #[(.slice none 0 0)]) (cT rfl ResL.nil) rfl rfl rfl rfl
 refine T.condF rfl (c3) ?_;refine aK rfl ?_;refine aS ?_;refine TL.op (OpR.litRow rfl rfl rfl rfl rfl rfl rfl rfl (fun _=>rfl)) rfl (fun v4=>?_);refine aA rfl rfl ?_;obtain⟨x5,hx5,h0⟩:=bS h0;refine TL.op (OpR.appendM (m:=a0) e_row_Row 0 hx5 rfl rfl rfl rfl rfl rfl rfl rfl rfl (fun _=>rfl)) rfl (fun v6=>?_);refine aA rfl rfl ?_;refine aN rfl ?_;refine T.ret ?_;obtain rfl:=osi h0;exact rO [0] [2] rfl (.tuple #[v6]) (cT rfl ResL.nil) rfl rfl rfl rfl
noncomputable def tree_cuts_row_Row.l1 (s6:(List row_Row) × Int × (List (List row_Row))):Option (Lp ((List row_Row) × Int × (List (List row_Row))) (List (List row_Row))):=
 if s6.2.1>0 then
 bnd (dvd (s6.1.length:Int) s6.2.1) fun x15=>
 bnd (cut s6.1 0 x15) fun x16=>
 bnd (slices_Clone_row_Row_row_Row x16) fun x17=>
 bnd (app 24 s6.2.2 [x17]) fun x19=>
 bnd (cut s6.1 x15 (s6.1.length:Int)) fun x21=>
 some (Lp.next (x21,w64 (s6.2.1-1),x19))
else
 some (Lp.done s6.2.2)
noncomputable def tree_cuts_row_Row (a0:List row_Row):Option (List (List row_Row)):=
 bnd ((mkc 24 (w64 (quo (w64 ((w64 ((a0.length:Int)+6))-1)) 5)):Option (List (List row_Row)))) fun x1=>
 bnd (loop tree_cuts_row_Row.l1 (a0,w64 (quo (w64 ((w64 ((a0.length:Int)+6))-1)) 5),x1):Option (List (List row_Row))) fun t3=>
 some t3
theorem tree_cuts_row_Row_c {a0:List row_Row} {res:(List (List row_Row))} (h0:tree_cuts_row_Row a0=some res):CallF X 210 [.sl 3 (List.map e_row_Row a0)] [] (fun x=>.sl 1 (List.map e_sl163 res)) (fun x=>[]):=by
 unfold tree_cuts_row_Row at h0;refine CallF.mkG (X:=X) rfl Tryz.func210 rfl rfl Tryz.ntmps210 rfl rfl ?_;refine aS ?_;refine aA rfl rfl ?_;refine aN rfl ?_;refine aS ?_;refine aA rfl rfl ?_;refine TL.op1 (OpR.cast (OpR.pure rfl) (intE (lenM _ _))) rfl ?_;iterate 4 refine aA rfl rfl ?_
 refine aN rfl ?_;refine aS ?_;refine aA rfl rfl ?_;obtain⟨x1,hx1,h0⟩:=bS h0;refine TL.op (OpR.makeC e_sl163 hx1 rfl rfl rfl rfl rfl rfl rfl (fun _=>rfl)) rfl (fun v2=>?_);refine aA rfl rfl ?_;refine aN rfl ?_;refine T.seq ?_;obtain⟨t3,ht3,h0⟩:=bS h0;refine T.cutC (fun S'=>∃ y4:Value,S'=⟨[(4,.val y4),(2,.val (.slice none 0 0))],[.row y4 (List.map e_sl163 t3) 1 163],32⟩) (fun _ h=>h) ?_ ?_;rotate_left
 ·rintro _ ⟨y4,rfl⟩;show T X _ _ _;refine aS ?_;iterate 2 refine aA rfl rfl ?_
  refine aN rfl ?_;refine T.ret ?_;obtain rfl:=osi h0;exact PostG.retP (ks:=[]) (Gst.trans (Gst.only [2] rfl) (Gst.trans (Gst.freezeRow 0 rfl rfl (ReS.cons (Re.base .all) ReS.nil) (ReO.same ReO.nil)) (Gst.pick [] rfl rfl))) undef (cT rfl ResL.nil) rfl rfl rfl rfl
 refine T.block ?_;obtain⟨n7,n12⟩:=loop_some ht3;refine T.loop (fun n S'=>∃ S'',Gst S' S''∧∃ y5:Value,∃ s6:(List row_Row) × Int × (List (List row_Row)),S''=⟨[(4,.val y5),(3,(dN s6.2.1)),(2,.val (.slice none 0 0)),(0,.sl 3 (List.map e_row_Row s6.1))],[.row y5 (List.map e_sl163 s6.2.2) 1 163],32⟩∧iter tree_cuts_row_Row.l1 n s6=some t3) n7 ?_ ?_
 ·exact⟨_,Gst.only [0,2,3,4] rfl,v2,(a0,w64 (quo (w64 ((w64 ((a0.length:Int)+6))-1)) 5),x1),rfl,n12⟩
 rintro n7 _ ⟨_,g,y5,s6,rfl,i11⟩;refine T.ghost g ?_;obtain⟨m8,q9,rfl,q10,i11⟩:=iter_succ i11;unfold tree_cuts_row_Row.l1 at q10;refine T.seq ?_;refine aS ?_;iterate 2 refine aA rfl rfl ?_
 refine aN rfl ?_;rcases ite_some q10 with ⟨c14,q10⟩|⟨c14,q10⟩;rotate_left
 ·refine T.condF rfl (eF c14) ?_;refine T.exit ?_;obtain rfl:=osi q10;obtain rfl:_=_:=i11;exact⟨_,Gst.only [2,4] rfl,y5,rfl⟩
 refine T.condT rfl (eT c14) ?_;refine aK rfl ?_;refine T.seq ?_;refine T.block ?_;refine aS ?_;refine aA rfl rfl ?_;refine TL.op1 (OpR.cast (OpR.pure rfl) (intE (lenM _ _))) rfl ?_;refine aA rfl rfl ?_;obtain⟨x15,hx15,q10⟩:=bS q10;refine TL.op1 (OpR.dvdM hx15 rfl rfl rfl) rfl ?_;refine aA rfl rfl ?_;refine aN rfl ?_;refine aS ?_;iterate 3 refine aA rfl rfl ?_
 obtain⟨x16,hx16,q10⟩:=bS q10;refine TL.op1 (OpR.sliceM (sz:=3) e_row_Row hx16 rfl rfl rfl rfl BdM.none (BdM.some rfl) rfl) rfl ?_;obtain⟨x17,hx17,q10⟩:=bS q10;refine TL.op (OpR.call [] fn191 (slices_Clone_row_Row_row_Row_c hx17) rfl rfl rfl (fun _=>rfl)) rfl (fun w18=>?_);refine TL.ghost (Gst.freezeRow 1 rfl rfl (ReS.cons (Re.base .all) (ReS.refl _)) (ReO.same (ReO.same ReO.nil))) ?_;refine TL.op1 (OpR.lit rfl rfl rfl rfl rfl rfl rfl) rfl ?_;obtain⟨x19,hx19,q10⟩:=bS q10;refine TL.op (OpR.appendM (m:=[x17]) e_sl163 0 hx19 rfl rfl rfl rfl rfl rfl rfl rfl rfl (fun _=>rfl)) rfl (fun v20=>?_);refine aA rfl rfl ?_;refine aN rfl ?_;refine T.region ?_;iterate 2 refine aA rfl rfl ?_
 obtain⟨x21,hx21,q10⟩:=bS q10;refine TL.op1 (OpR.sliceM (sz:=3) e_row_Row hx21 rfl rfl rfl rfl (BdM.some rfl) BdM.none rfl) rfl ?_;refine aA rfl rfl ?_;refine aN rfl ?_;refine T.region ?_;iterate 3 refine aA rfl rfl ?_
 refine TL.nil ?_;obtain rfl:=osi q10;exact⟨m8,Nat.lt_succ_self _,_,gP [0,2,3,4] [0] rfl rfl rfl,v20,(x21,w64 (s6.2.1-1),x19),rfl,i11⟩
noncomputable def tree_leaf_row_Row (a0:List row_Row):Option ((List NP) × (List row_Row) × Int):=
 some ([],a0,(a0.length:Int))
theorem tree_leaf_row_Row_c {a0:List row_Row} {res:(List NP) × (List row_Row) × Int} (h0:tree_leaf_row_Row a0=some res):CallF X 211 [.sl 3 (List.map e_row_Row a0)] [] (fun x=>.nod [.sl 1 (List.map eNP res.1),.sl 3 (List.map e_row_Row res.2.1),dN res.2.2]) (fun x=>[]):=by
 unfold tree_leaf_row_Row at h0;refine CallF.mkG (X:=X) rfl Tryz.func211 rfl rfl Tryz.ntmps211 rfl rfl ?_;refine aS ?_;refine aA rfl rfl ?_;refine aN rfl ?_;refine aS ?_;iterate 2 refine aA rfl rfl ?_
 refine TL.op1 (OpR.cast (OpR.pure rfl) (intE (lenM _ _))) rfl ?_;refine TL.op1 (OpR.wk (d':=fun _=>.agg [.sl 1 (List.map eNP []),.sl 3 (List.map e_row_Row a0),dN (a0.length:Int)]) (OpR.build rfl rfl rfl rfl rfl) (fun _=>Re.agg (ReL.cons (Re.base .nil) (ReL.cons Re.refl (ReL.cons Re.refl ReL.nil))) (fun _ _ h=>by cases h; exact⟨_,rfl⟩))) rfl ?_;refine TL.op (OpR.boxVar rfl rfl (fun _=>rfl)) rfl (fun p1=>?_);refine aA rfl rfl ?_;refine aN rfl ?_;refine T.ghost (Gst.trans (Gst.only [2] rfl) (Gst.freezeVar 0 rfl rfl (ReS.cons (Re.base .all) ReS.nil) (ReO.same ReO.nil))) ?_;refine T.ret ?_;obtain rfl:=osi h0;exact rP [] [2] [] rfl rfl rfl undef (cT rfl ResL.nil) rfl rfl rfl rfl
noncomputable def tree_leaves_row_Row.l1 (x1:(List (List row_Row))) (s5:Int × (List NP)):Option (Lp (Int × (List NP)) (List NP)):=
 if s5.1<(x1.length:Int) then
 bnd (idx x1 s5.1) fun x14=>
 bnd (tree_leaf_row_Row x14) fun x15=>
 bnd (app 8 s5.2 [(c_tNd (⟨x15.1,x15.2.1,x15.2.2⟩:tNd))]) fun x16=>
 some (Lp.next (w64 (s5.1+1),x16))
else
 some (Lp.done s5.2)
noncomputable def tree_leaves_row_Row (a0:List row_Row):Option (List NP):=
 bnd (tree_cuts_row_Row a0) fun x1=>
 bnd (loop (tree_leaves_row_Row.l1 x1) (0,[]):Option (List NP)) fun t2=>
 some t2
theorem tree_leaves_row_Row_c {a0:List row_Row} {res:(List NP)} (h0:tree_leaves_row_Row a0=some res):CallF X 169 [.sl 3 (List.map e_row_Row a0)] [] (fun x=>.sl 1 (List.map eNP res)) (fun x=>[]):=by
 unfold tree_leaves_row_Row at h0;refine CallF.mkG (X:=X) rfl Tryz.func169 rfl rfl Tryz.ntmps169 rfl rfl ?_;refine aS ?_;refine aA rfl rfl ?_;refine aN rfl ?_;refine aS ?_;refine aA rfl rfl ?_;refine aN rfl ?_;refine T.seq ?_;refine aS ?_;refine aA rfl rfl ?_;obtain⟨x1,hx1,h0⟩:=bS h0;refine TL.op1 (OpR.call0 fn210 (tree_cuts_row_Row_c hx1) rfl) rfl ?_;refine TL.op1 (OpR.cast (OpR.pure rfl) (intE (lenM _ _))) rfl ?_;refine aA rfl rfl ?_;refine aN rfl ?_;obtain⟨t2,ht2,h0⟩:=bS h0;refine T.cutC (fun S'=>∃ y3:Value,S'=⟨[(3,.val y3),(2,.val (.slice none 0 0))],[.row y3 (List.map eNP t2) 1 23],20⟩) (fun _ h=>h) ?_ ?_;rotate_left
 ·rintro _ ⟨y3,rfl⟩;show T X _ _ _;refine aS ?_;iterate 2 refine aA rfl rfl ?_
  refine aN rfl ?_;refine T.ret ?_;obtain rfl:=osi h0;exact PostG.retP (ks:=[]) (Gst.trans (Gst.only [2] rfl) (Gst.trans (Gst.freezeRow 0 rfl rfl (ReS.cons (Re.base .all) ReS.nil) (ReO.same ReO.nil)) (Gst.pick [] rfl rfl))) undef (cT rfl ResL.nil) rfl rfl rfl rfl
 refine T.block ?_;obtain⟨n6,n11⟩:=loop_some ht2;refine T.loop (fun n S'=>∃ S'',Gst S' S''∧∃ y4:Value,∃ s5:Int × (List NP),S''=⟨[(9,(dN s5.1)),(8,(dN (x1.length:Int))),(7,.sl 1 (List.map e_sl163 x1)),(3,.val y4),(2,.val (.slice none 0 0))],[.row y4 (List.map eNP s5.2) 1 23],20⟩∧iter (tree_leaves_row_Row.l1 x1) n s5=some t2) n6 ?_ ?_
 ·exact⟨_,Gst.trans (Gst.only [2,3,7,8,9] rfl) (Gst.nilRow (ow:=[]) 1 23 rfl),(.slice none 0 0),(0,[]),rfl,n11⟩
 rintro n6 _ ⟨_,g,y4,s5,rfl,i10⟩;refine T.ghost g ?_;obtain⟨m7,q8,rfl,q9,i10⟩:=iter_succ i10;unfold tree_leaves_row_Row.l1 at q9;refine aS ?_;refine aA rfl rfl ?_;refine aN rfl ?_;refine T.seq ?_;rcases ite_some q9 with ⟨c13,q9⟩|⟨c13,q9⟩;rotate_left
 ·refine T.condF rfl (eF c13) ?_;refine T.exit ?_;obtain rfl:=osi q9;obtain rfl:_=_:=i10;exact⟨_,Gst.only [2,3] rfl,y4,rfl⟩
 refine T.condT rfl (eT c13) ?_;refine aK rfl ?_;refine T.seq ?_;refine T.block ?_;refine aS ?_;obtain⟨x14,hx14,q9⟩:=bS q9;refine TL.op1 (OpR.indexM e_sl163 hx14 rfl rfl rfl rfl rfl) rfl ?_;iterate 2 refine aA rfl rfl ?_
 refine aN rfl ?_;refine T.region ?_;iterate 2 refine aA rfl rfl ?_
 obtain⟨x15,hx15,q9⟩:=bS q9;refine TL.op1 (OpR.call0 fn211 (tree_leaf_row_Row_c hx15) rfl) rfl ?_;refine TL.op1 (OpR.lit rfl rfl rfl rfl rfl rfl rfl) rfl ?_;obtain⟨x16,hx16,q9⟩:=bS q9;refine TL.op (OpR.appendM (m:=[(c_tNd (⟨x15.1,x15.2.1,x15.2.2⟩:tNd))]) eNP 0 hx16 rfl rfl rfl rfl rfl rfl rfl rfl rfl (fun _=>rfl)) rfl (fun v17=>?_);refine aA rfl rfl ?_;refine aN rfl ?_;refine T.region ?_;iterate 2 refine aA rfl rfl ?_
 refine TL.nil ?_;obtain rfl:=osi q9;exact⟨m7,Nat.lt_succ_self _,_,Gst.only [2,3,7,8,9] rfl,v17,(w64 (s5.1+1),x16),rfl,i10⟩
noncomputable def slices_Clone_tree_Node_row_Row_tree_Node_row_Row (a0:List NP):Option (List NP):=
 bnd (app 8 [] a0) fun x5=>
 some x5
theorem slices_Clone_tree_Node_row_Row_tree_Node_row_Row_c {a0:List NP} {res:(List NP)} (h0:slices_Clone_tree_Node_row_Row_tree_Node_row_Row a0=some res):CallF X 262 [.sl 1 (List.map eNP a0)] [] (fun x=>.val (vn x 0)) (fun x=>[.row (vn x 0) (List.map eNP res) 1 23]):=by
 unfold slices_Clone_tree_Node_row_Row_tree_Node_row_Row at h0;refine CallF.mkG (X:=X) rfl Tryz.func262 rfl rfl Tryz.ntmps262 rfl rfl ?_;refine aS ?_;refine aA rfl rfl ?_;refine aN rfl ?_;refine T.seq ?_;refine aS ?_;refine aA rfl rfl ?_;refine TL.isNil rfl rfl rfl rfl (fun b1 e2=>?_);refine aN rfl ?_;rcases Bool.eq_false_or_eq_true b1 with c3|c3
 ·obtain rfl:=map_nil_of (e2 c3);rw[app_nil] at h0;refine T.condT rfl (c3) ?_;refine aS ?_;refine aA rfl rfl ?_;refine aN rfl ?_;refine T.ret ?_;obtain rfl:=osi h0;exact PostG.retP (ks:=[0]) (Gst.trans (Gst.only [2] rfl) (Gst.nilRow (ow:=[]) 1 23 rfl)) (.tuple #[(.slice none 0 0)]) (cT rfl ResL.nil) rfl rfl rfl rfl
 refine T.condF rfl (c3) ?_;refine aK rfl ?_;refine aS ?_;refine TL.op (OpR.litRow rfl rfl rfl rfl rfl rfl rfl rfl (fun _=>rfl)) rfl (fun v4=>?_);refine aA rfl rfl ?_;obtain⟨x5,hx5,h0⟩:=bS h0;refine TL.op (OpR.appendM (m:=a0) eNP 0 hx5 rfl rfl rfl rfl rfl rfl rfl rfl rfl (fun _=>rfl)) rfl (fun v6=>?_);refine aA rfl rfl ?_;refine aN rfl ?_;refine T.ret ?_;obtain rfl:=osi h0;exact rO [0] [2] rfl (.tuple #[v6]) (cT rfl ResL.nil) rfl rfl rfl rfl
noncomputable def tree_cuts_tree_Node_row_Row.l1 (s6:(List NP) × Int × (List (List NP))):Option (Lp ((List NP) × Int × (List (List NP))) (List (List NP))):=
 if s6.2.1>0 then
 bnd (dvd (s6.1.length:Int) s6.2.1) fun x15=>
 bnd (cut s6.1 0 x15) fun x16=>
 bnd (slices_Clone_tree_Node_row_Row_tree_Node_row_Row x16) fun x17=>
 bnd (app 24 s6.2.2 [x17]) fun x19=>
 bnd (cut s6.1 x15 (s6.1.length:Int)) fun x21=>
 some (Lp.next (x21,w64 (s6.2.1-1),x19))
else
 some (Lp.done s6.2.2)
noncomputable def tree_cuts_tree_Node_row_Row (a0:List NP):Option (List (List NP)):=
 bnd ((mkc 24 (w64 (quo (w64 ((w64 ((a0.length:Int)+6))-1)) 5)):Option (List (List NP)))) fun x1=>
 bnd (loop tree_cuts_tree_Node_row_Row.l1 (a0,w64 (quo (w64 ((w64 ((a0.length:Int)+6))-1)) 5),x1):Option (List (List NP))) fun t3=>
 some t3
theorem tree_cuts_tree_Node_row_Row_c {a0:List NP} {res:(List (List NP))} (h0:tree_cuts_tree_Node_row_Row a0=some res):CallF X 235 [.sl 1 (List.map eNP a0)] [] (fun x=>.sl 1 (List.map e_sl221 res)) (fun x=>[]):=by
 unfold tree_cuts_tree_Node_row_Row at h0;refine CallF.mkG (X:=X) rfl Tryz.func235 rfl rfl Tryz.ntmps235 rfl rfl ?_;refine aS ?_;refine aA rfl rfl ?_;refine aN rfl ?_;refine aS ?_;refine aA rfl rfl ?_;refine TL.op1 (OpR.cast (OpR.pure rfl) (intE (lenM _ _))) rfl ?_;iterate 4 refine aA rfl rfl ?_
 refine aN rfl ?_;refine aS ?_;refine aA rfl rfl ?_;obtain⟨x1,hx1,h0⟩:=bS h0;refine TL.op (OpR.makeC e_sl221 hx1 rfl rfl rfl rfl rfl rfl rfl (fun _=>rfl)) rfl (fun v2=>?_);refine aA rfl rfl ?_;refine aN rfl ?_;refine T.seq ?_;obtain⟨t3,ht3,h0⟩:=bS h0;refine T.cutC (fun S'=>∃ y4:Value,S'=⟨[(4,.val y4),(2,.val (.slice none 0 0))],[.row y4 (List.map e_sl221 t3) 1 221],32⟩) (fun _ h=>h) ?_ ?_;rotate_left
 ·rintro _ ⟨y4,rfl⟩;show T X _ _ _;refine aS ?_;iterate 2 refine aA rfl rfl ?_
  refine aN rfl ?_;refine T.ret ?_;obtain rfl:=osi h0;exact PostG.retP (ks:=[]) (Gst.trans (Gst.only [2] rfl) (Gst.trans (Gst.freezeRow 0 rfl rfl (ReS.cons (Re.base .all) ReS.nil) (ReO.same ReO.nil)) (Gst.pick [] rfl rfl))) undef (cT rfl ResL.nil) rfl rfl rfl rfl
 refine T.block ?_;obtain⟨n7,n12⟩:=loop_some ht3;refine T.loop (fun n S'=>∃ S'',Gst S' S''∧∃ y5:Value,∃ s6:(List NP) × Int × (List (List NP)),S''=⟨[(4,.val y5),(3,(dN s6.2.1)),(2,.val (.slice none 0 0)),(0,.sl 1 (List.map eNP s6.1))],[.row y5 (List.map e_sl221 s6.2.2) 1 221],32⟩∧iter tree_cuts_tree_Node_row_Row.l1 n s6=some t3) n7 ?_ ?_
 ·exact⟨_,Gst.only [0,2,3,4] rfl,v2,(a0,w64 (quo (w64 ((w64 ((a0.length:Int)+6))-1)) 5),x1),rfl,n12⟩
 rintro n7 _ ⟨_,g,y5,s6,rfl,i11⟩;refine T.ghost g ?_;obtain⟨m8,q9,rfl,q10,i11⟩:=iter_succ i11;unfold tree_cuts_tree_Node_row_Row.l1 at q10;refine T.seq ?_;refine aS ?_;iterate 2 refine aA rfl rfl ?_
 refine aN rfl ?_;rcases ite_some q10 with ⟨c14,q10⟩|⟨c14,q10⟩;rotate_left
 ·refine T.condF rfl (eF c14) ?_;refine T.exit ?_;obtain rfl:=osi q10;obtain rfl:_=_:=i11;exact⟨_,Gst.only [2,4] rfl,y5,rfl⟩
 refine T.condT rfl (eT c14) ?_;refine aK rfl ?_;refine T.seq ?_;refine T.block ?_;refine aS ?_;refine aA rfl rfl ?_;refine TL.op1 (OpR.cast (OpR.pure rfl) (intE (lenM _ _))) rfl ?_;refine aA rfl rfl ?_;obtain⟨x15,hx15,q10⟩:=bS q10;refine TL.op1 (OpR.dvdM hx15 rfl rfl rfl) rfl ?_;refine aA rfl rfl ?_;refine aN rfl ?_;refine aS ?_;iterate 3 refine aA rfl rfl ?_
 obtain⟨x16,hx16,q10⟩:=bS q10;refine TL.op1 (OpR.sliceM (sz:=1) eNP hx16 rfl rfl rfl rfl BdM.none (BdM.some rfl) rfl) rfl ?_;obtain⟨x17,hx17,q10⟩:=bS q10;refine TL.op (OpR.call [] fn262 (slices_Clone_tree_Node_row_Row_tree_Node_row_Row_c hx17) rfl rfl rfl (fun _=>rfl)) rfl (fun w18=>?_);refine TL.ghost (Gst.freezeRow 1 rfl rfl (ReS.cons (Re.base .all) (ReS.refl _)) (ReO.same (ReO.same ReO.nil))) ?_;refine TL.op1 (OpR.lit rfl rfl rfl rfl rfl rfl rfl) rfl ?_;obtain⟨x19,hx19,q10⟩:=bS q10;refine TL.op (OpR.appendM (m:=[x17]) e_sl221 0 hx19 rfl rfl rfl rfl rfl rfl rfl rfl rfl (fun _=>rfl)) rfl (fun v20=>?_);refine aA rfl rfl ?_;refine aN rfl ?_;refine T.region ?_;iterate 2 refine aA rfl rfl ?_
 obtain⟨x21,hx21,q10⟩:=bS q10;refine TL.op1 (OpR.sliceM (sz:=1) eNP hx21 rfl rfl rfl rfl (BdM.some rfl) BdM.none rfl) rfl ?_;refine aA rfl rfl ?_;refine aN rfl ?_;refine T.region ?_;iterate 3 refine aA rfl rfl ?_
 refine TL.nil ?_;obtain rfl:=osi q10;exact⟨m8,Nat.lt_succ_self _,_,gP [0,2,3,4] [0] rfl rfl rfl,v20,(x21,w64 (s6.2.1-1),x19),rfl,i11⟩
noncomputable def tree_inner_row_Row.l1 (a0:List NP) (s3:Int × Int):Option (Lp (Int × Int) Int):=
 if s3.1<(a0.length:Int) then
 bnd (idx a0 s3.1) fun x12=>
 bnd (o_tNd x12) fun x13=>
 some (Lp.next (w64 (s3.1+1),w64 (s3.2+x13.fN)))
else
 some (Lp.done s3.2)
noncomputable def tree_inner_row_Row (a0:List NP):Option ((List NP) × (List row_Row) × Int):=
 bnd (loop (tree_inner_row_Row.l1 a0) (0,0):Option Int) fun t2=>
 some (a0,[],t2)
theorem tree_inner_row_Row_c {a0:List NP} {res:(List NP) × (List row_Row) × Int} (h0:tree_inner_row_Row a0=some res):CallF X 236 [.sl 1 (List.map eNP a0)] [] (fun x=>.nod [.sl 1 (List.map eNP res.1),.sl 3 (List.map e_row_Row res.2.1),dN res.2.2]) (fun x=>[]):=by
 unfold tree_inner_row_Row at h0;refine CallF.mkG (X:=X) rfl Tryz.func236 rfl rfl Tryz.ntmps236 rfl rfl ?_;refine aS ?_;refine aA rfl rfl ?_;refine aN rfl ?_;refine aS ?_;refine aA rfl rfl ?_;refine TL.op1 (OpR.wk (d':=fun _=>.agg [.sl 1 (List.map eNP a0),.sl 3 (List.map e_row_Row []),dN 0]) (OpR.build rfl rfl rfl rfl rfl) (fun _=>Re.agg (ReL.cons Re.refl (ReL.cons (Re.base .nil) (ReL.cons Re.refl ReL.nil))) (fun _ _ h=>by cases h; exact⟨_,rfl⟩))) rfl ?_;refine TL.op (OpR.boxVar rfl rfl (fun _=>rfl)) rfl (fun p1=>?_);refine aA rfl rfl ?_;refine aN rfl ?_;refine T.seq ?_;refine aS ?_;refine aA rfl rfl ?_;refine TL.op1 (OpR.cast (OpR.pure rfl) (intE (lenM _ _))) rfl ?_;refine aA rfl rfl ?_;refine aN rfl ?_;obtain⟨t2,ht2,h0⟩:=bS h0;refine T.cutC (fun S'=>S'=⟨[(3,(dP (blk p1))),(2,dQ)],[.var (blk p1) [.sl 1 (List.map eNP a0),.sl 3 (List.map e_row_Row []),dN t2] 223],28⟩) (fun _ h=>h) ?_ ?_;rotate_left
 ·rintro _ rfl;show T X _ _ _;refine aS ?_;iterate 2 refine aA rfl rfl ?_
  refine aN rfl ?_;refine T.ghost (Gst.trans (Gst.only [2] rfl) (Gst.freezeVar 0 rfl rfl (ReS.cons (Re.base .all) ReS.nil) (ReO.same ReO.nil))) ?_;refine T.ret ?_;obtain rfl:=osi h0;exact rP [] [2] [] rfl rfl rfl undef (cT rfl ResL.nil) rfl rfl rfl rfl
 refine T.block ?_;obtain⟨n4,n9⟩:=loop_some ht2;refine T.loop (fun n S'=>∃ S'',Gst S' S''∧∃ s3:Int × Int,S''=⟨[(11,(dN s3.1)),(10,(dN (a0.length:Int))),(9,.sl 1 (List.map eNP a0)),(3,(dP (blk p1))),(2,dQ)],[.var (blk p1) [.sl 1 (List.map eNP a0),.sl 3 (List.map e_row_Row []),dN s3.2] 223],28⟩∧iter (tree_inner_row_Row.l1 a0) n s3=some t2) n4 ?_ ?_
 ·exact⟨_,Gst.only [2,3,9,10,11] rfl,(0,0),rfl,n9⟩
 rintro n4 _ ⟨_,g,s3,rfl,i8⟩;refine T.ghost g ?_;obtain⟨m5,q6,rfl,q7,i8⟩:=iter_succ i8;unfold tree_inner_row_Row.l1 at q7;refine aS ?_;refine aA rfl rfl ?_;refine aN rfl ?_;refine T.seq ?_;rcases ite_some q7 with ⟨c11,q7⟩|⟨c11,q7⟩;rotate_left
 ·refine T.condF rfl (eF c11) ?_;refine T.exit ?_;obtain rfl:=osi q7;obtain rfl:_=_:=i8;exact⟨_,Gst.only [2,3] rfl,rfl⟩
 refine T.condT rfl (eT c11) ?_;refine aK rfl ?_;refine T.seq ?_;refine T.block ?_;refine aS ?_;obtain⟨x12,hx12,q7⟩:=bS q7;obtain⟨x13,hx13,q7⟩:=bS q7;rw[o_tNd_eq hx13] at hx12;refine TL.op1 (OpR.indexM eNP hx12 rfl rfl rfl rfl rfl) rfl ?_;iterate 2 refine aA rfl rfl ?_
 refine aN rfl ?_;refine T.drawS drawsX (fun env14=>[dP (blk p1),dP (blk p1),.val (.pointer (some ⟨(blk p1),2,none⟩)),dN s3.2,.nod [.sl 1 (List.map eNP x13.fKids),.sl 3 (List.map e_row_Row x13.fItems),dN x13.fN],.nod [.sl 1 (List.map eNP x13.fKids),.sl 3 (List.map e_row_Row x13.fItems),dN x13.fN],.nod [dN x13.fN],dN x13.fN,dN (w64 (s3.2+x13.fN)),dP (blk p1),.val (.pointer (some ⟨(blk p1),2,none⟩)),.dead]) (fun D env14=>[(bif D 11 then .var (blk p1) [.sl 1 (List.map eNP a0),.sl 3 (List.map e_row_Row []),dN (w64 (s3.2+x13.fN))] 223 else .var (blk p1) [.sl 1 (List.map eNP a0),.sl 3 (List.map e_row_Row []),dN s3.2] 223)]) [0,1,3,7,0,16,48,112,255,511,1023,2047] [2,3,9,10,11] _ (by decide +kernel) (by decide +kernel) (fun _=>rfl) (fun _=>rfl) ?_ (fun _=>rfl) (fun _=>rfl) ?_;rotate_left
 ·intro env14;show T X _ _ _;refine T.region ?_;iterate 2 refine aA rfl rfl ?_
  refine TL.nil ?_;obtain rfl:=osi q7;exact⟨m5,Nat.lt_succ_self _,_,Gst.only [2,3,9,10,11] rfl,(w64 (s3.1+1),w64 (s3.2+x13.fN)),rfl,i8⟩
 iterate 3 refine aC ?_
 refine OpsS.cons' true ?_ (fun _ _ _ _ _ _ _=>rfl) ?_
 ·intro D env14 hA;have e11:D 11=false:=hA.no 11 _ rfl rfl;exact OpS.yp [(11,false)] ⟨e11,trivial⟩ (Want.plain rfl) (OpR.loadPtr 0 rfl rfl rfl rfl) (fun x=>rfl) (fun x=>rfl)
 iterate 7 refine aC ?_
 refine OpsS.cons' true ?_ (fun _ _ _ _ _ _ _=>rfl) ?_
 ·intro D env14 hA;exact OpS.yp [(11,false)] ⟨hA.me,trivial⟩ (Want.plain rfl) (OpR.store 0 rfl rfl rfl rfl rfl rfl rfl rfl) (fun x=>rfl) (fun x=>rfl)
 exact trivial
noncomputable def tree_inners_row_Row.l1 (x1:(List (List NP))) (s5:Int × (List NP)):Option (Lp (Int × (List NP)) (List NP)):=
 if s5.1<(x1.length:Int) then
 bnd (idx x1 s5.1) fun x14=>
 bnd (tree_inner_row_Row x14) fun x15=>
 bnd (app 8 s5.2 [(c_tNd (⟨x15.1,x15.2.1,x15.2.2⟩:tNd))]) fun x16=>
 some (Lp.next (w64 (s5.1+1),x16))
else
 some (Lp.done s5.2)
noncomputable def tree_inners_row_Row (a0:List NP):Option (List NP):=
 bnd (tree_cuts_tree_Node_row_Row a0) fun x1=>
 bnd (loop (tree_inners_row_Row.l1 x1) (0,[]):Option (List NP)) fun t2=>
 some t2
theorem tree_inners_row_Row_c {a0:List NP} {res:(List NP)} (h0:tree_inners_row_Row a0=some res):CallF X 209 [.sl 1 (List.map eNP a0)] [] (fun x=>.sl 1 (List.map eNP res)) (fun x=>[]):=by
 unfold tree_inners_row_Row at h0;refine CallF.mkG (X:=X) rfl Tryz.func209 rfl rfl Tryz.ntmps209 rfl rfl ?_;refine aS ?_;refine aA rfl rfl ?_;refine aN rfl ?_;refine aS ?_;refine aA rfl rfl ?_;refine aN rfl ?_;refine T.seq ?_;refine aS ?_;refine aA rfl rfl ?_;obtain⟨x1,hx1,h0⟩:=bS h0;refine TL.op1 (OpR.call0 fn235 (tree_cuts_tree_Node_row_Row_c hx1) rfl) rfl ?_;refine TL.op1 (OpR.cast (OpR.pure rfl) (intE (lenM _ _))) rfl ?_;refine aA rfl rfl ?_;refine aN rfl ?_;obtain⟨t2,ht2,h0⟩:=bS h0;refine T.cutC (fun S'=>∃ y3:Value,S'=⟨[(3,.val y3),(2,.val (.slice none 0 0))],[.row y3 (List.map eNP t2) 1 23],20⟩) (fun _ h=>h) ?_ ?_;rotate_left
 ·rintro _ ⟨y3,rfl⟩;show T X _ _ _;refine aS ?_;iterate 2 refine aA rfl rfl ?_
  refine aN rfl ?_;refine T.ret ?_;obtain rfl:=osi h0;exact PostG.retP (ks:=[]) (Gst.trans (Gst.only [2] rfl) (Gst.trans (Gst.freezeRow 0 rfl rfl (ReS.cons (Re.base .all) ReS.nil) (ReO.same ReO.nil)) (Gst.pick [] rfl rfl))) undef (cT rfl ResL.nil) rfl rfl rfl rfl
 refine T.block ?_;obtain⟨n6,n11⟩:=loop_some ht2;refine T.loop (fun n S'=>∃ S'',Gst S' S''∧∃ y4:Value,∃ s5:Int × (List NP),S''=⟨[(9,(dN s5.1)),(8,(dN (x1.length:Int))),(7,.sl 1 (List.map e_sl221 x1)),(3,.val y4),(2,.val (.slice none 0 0))],[.row y4 (List.map eNP s5.2) 1 23],20⟩∧iter (tree_inners_row_Row.l1 x1) n s5=some t2) n6 ?_ ?_
 ·exact⟨_,Gst.trans (Gst.only [2,3,7,8,9] rfl) (Gst.nilRow (ow:=[]) 1 23 rfl),(.slice none 0 0),(0,[]),rfl,n11⟩
 rintro n6 _ ⟨_,g,y4,s5,rfl,i10⟩;refine T.ghost g ?_;obtain⟨m7,q8,rfl,q9,i10⟩:=iter_succ i10;unfold tree_inners_row_Row.l1 at q9;refine aS ?_;refine aA rfl rfl ?_;refine aN rfl ?_;refine T.seq ?_;rcases ite_some q9 with ⟨c13,q9⟩|⟨c13,q9⟩;rotate_left
 ·refine T.condF rfl (eF c13) ?_;refine T.exit ?_;obtain rfl:=osi q9;obtain rfl:_=_:=i10;exact⟨_,Gst.only [2,3] rfl,y4,rfl⟩
 refine T.condT rfl (eT c13) ?_;refine aK rfl ?_;refine T.seq ?_;refine T.block ?_;refine aS ?_;obtain⟨x14,hx14,q9⟩:=bS q9;refine TL.op1 (OpR.indexM e_sl221 hx14 rfl rfl rfl rfl rfl) rfl ?_;iterate 2 refine aA rfl rfl ?_
 refine aN rfl ?_;refine T.region ?_;iterate 2 refine aA rfl rfl ?_
 obtain⟨x15,hx15,q9⟩:=bS q9;refine TL.op1 (OpR.call0 fn236 (tree_inner_row_Row_c hx15) rfl) rfl ?_;refine TL.op1 (OpR.lit rfl rfl rfl rfl rfl rfl rfl) rfl ?_;obtain⟨x16,hx16,q9⟩:=bS q9;refine TL.op (OpR.appendM (m:=[(c_tNd (⟨x15.1,x15.2.1,x15.2.2⟩:tNd))]) eNP 0 hx16 rfl rfl rfl rfl rfl rfl rfl rfl rfl (fun _=>rfl)) rfl (fun v17=>?_);refine aA rfl rfl ?_;refine aN rfl ?_;refine T.region ?_;iterate 2 refine aA rfl rfl ?_
 refine TL.nil ?_;obtain rfl:=osi q9;exact⟨m7,Nat.lt_succ_self _,_,Gst.only [2,3,7,8,9] rfl,v17,(w64 (s5.1+1),x16),rfl,i10⟩
noncomputable def tree_above_row_Row.l1 (s3:(List NP)):Option (Lp (List NP) (List NP)):=
 if (s3.length:Int)>1 then
 bnd (tree_inners_row_Row s3) fun x12=>
 some (Lp.next x12)
else
 some (Lp.done s3)
noncomputable def tree_above_row_Row.l2 (s21:(List NP) × (List row_Row) × Int):Option (Lp ((List NP) × (List row_Row) × Int) ((List NP) × (List row_Row) × Int)):=
 if (s21.1.length:Int)=1 then
 bnd (idx s21.1 0) fun x30=>
 bnd (o_tNd x30) fun x31=>
 some (Lp.next (x31.fKids,x31.fItems,x31.fN))
else
 some (Lp.done (s21.1,s21.2.1,s21.2.2))
noncomputable def tree_above_row_Row (a0:List NP):Option tTr:=
 bnd (loop tree_above_row_Row.l1 a0:Option (List NP)) fun t2=>
 bnd (if (t2.length:Int)=0 then
 some true
else
 bnd (idx t2 0) fun x15=>
 bnd (o_tNd x15) fun x16=>
 some (x16.fN==0):Option Bool) fun t13=>
 if t13=true then
 some (⟨none⟩:tTr)
else
 bnd (idx t2 0) fun x18=>
 bnd (o_tNd x18) fun x19=>
 bnd (loop tree_above_row_Row.l2 (x19.fKids,x19.fItems,x19.fN):Option ((List NP) × (List row_Row) × Int)) fun t20=>
 some (⟨(some (c_tNd (⟨t20.1,t20.2.1,t20.2.2⟩:tNd)))⟩:tTr)
theorem tree_above_row_Row_c {a0:List NP} {res:tTr} (h0:tree_above_row_Row a0=some res):CallF X 168 [.sl 1 (List.map eNP a0)] [] (fun x=>.agg [(eOP res.fRoot)]) (fun x=>[]):=by
 unfold tree_above_row_Row at h0;refine CallF.mkG (X:=X) rfl Tryz.func168 rfl rfl Tryz.ntmps168 rfl rfl ?_;refine aS ?_;refine TL.op (OpR.alloc rfl rfl (fun _=>rfl)) rfl (fun p1=>?_);refine aN rfl ?_;refine T.seq ?_;obtain⟨t2,ht2,h0⟩:=bS h0;refine T.cutC (fun S'=>S'=⟨[(2,(dP (blk p1))),(0,.sl 1 (List.map eNP t2))],[.var (blk p1) [(eOP none)] 25],39⟩) (fun _ h=>h) ?_ ?_
 ·refine T.block ?_;obtain⟨n4,n9⟩:=loop_some ht2;refine T.loop (fun n S'=>∃ S'',Gst S' S''∧∃ s3:(List NP),S''=⟨[(2,(dP (blk p1))),(0,.sl 1 (List.map eNP s3))],[.var (blk p1) [(eOP none)] 25],39⟩∧iter tree_above_row_Row.l1 n s3=some t2) n4 ?_ ?_
  ·exact⟨_,Gst.only [0,2] rfl,a0,rfl,n9⟩
  rintro n4 _ ⟨_,g,s3,rfl,i8⟩;refine T.ghost g ?_;obtain⟨m5,q6,rfl,q7,i8⟩:=iter_succ i8;unfold tree_above_row_Row.l1 at q7;refine T.seq ?_;refine aS ?_;refine aA rfl rfl ?_;refine TL.op1 (OpR.cast (OpR.pure rfl) (intE (lenM _ _))) rfl ?_;refine aA rfl rfl ?_;refine aN rfl ?_;rcases ite_some q7 with ⟨c11,q7⟩|⟨c11,q7⟩;rotate_left
  ·refine T.condF rfl (eF c11) ?_;refine T.exit ?_;obtain rfl:=osi q7;obtain rfl:_=_:=i8;exact⟨_,Gst.only [0,2] rfl,rfl⟩
  refine T.condT rfl (eT c11) ?_;refine aK rfl ?_;refine T.block ?_;refine T.region ?_;refine aA rfl rfl ?_;obtain⟨x12,hx12,q7⟩:=bS q7;refine TL.op1 (OpR.call0 fn209 (tree_inners_row_Row_c hx12) rfl) rfl ?_;refine aA rfl rfl ?_;refine TL.nil ?_;obtain rfl:=osi q7;exact⟨m5,Nat.lt_succ_self _,_,Gst.only [0,2] rfl,x12,rfl,i8⟩
 rintro _ rfl;show T X _ _ _;refine T.seq ?_;refine T.seq ?_;obtain⟨t13,ht13,h0⟩:=bS h0;refine T.cutC (fun S'=>S'=⟨[(20,(dT t13)),(2,(dP (blk p1))),(0,.sl 1 (List.map eNP t2))],[.var (blk p1) [(eOP none)] 25],39⟩) (fun _ h=>h) ?_ ?_
 ·refine T.region ?_;refine aA rfl rfl ?_;refine TL.op1 (OpR.cast (OpR.pure rfl) (intE (lenM _ _))) rfl ?_;iterate 2 refine aA rfl rfl ?_
  rcases ite_some ht13 with ⟨c14,ht13⟩|⟨c14,ht13⟩
  ·refine TL.off rfl rfl rfl rfl (beq_iff_eq.2 c14) rfl rfl ?_;refine TL.off rfl rfl rfl rfl (beq_iff_eq.2 c14) rfl rfl ?_;refine TL.off rfl rfl rfl rfl (beq_iff_eq.2 c14) rfl rfl ?_;refine TL.off rfl rfl rfl rfl (beq_iff_eq.2 c14) rfl rfl ?_;refine TL.off rfl rfl rfl rfl (beq_iff_eq.2 c14) rfl rfl ?_;refine TL.off rfl rfl rfl rfl (beq_iff_eq.2 c14) rfl rfl ?_;refine TL.off rfl rfl rfl rfl (beq_iff_eq.2 c14) rfl rfl ?_;refine TL.op1 (OpR.pickT rfl (beq_iff_eq.2 c14) rfl) rfl ?_;refine TL.nil ?_;obtain rfl:=osi ht13;exact⟨_,Gst.only [0,2,20] rfl,rfl⟩
  refine TL.on rfl rfl rfl rfl (beq_eq_false_iff_ne.2 c14) ?_;refine aA rfl rfl ?_;refine TL.on rfl rfl rfl rfl (beq_eq_false_iff_ne.2 c14) ?_;obtain⟨x15,hx15,ht13⟩:=bS ht13;obtain⟨x16,hx16,ht13⟩:=bS ht13;rw[o_tNd_eq hx16] at hx15;refine TL.op1 (OpR.indexM eNP hx15 rfl rfl rfl rfl rfl) rfl ?_;refine TL.on rfl rfl rfl rfl (beq_eq_false_iff_ne.2 c14) ?_;refine aA rfl rfl ?_;refine TL.on rfl rfl rfl rfl (beq_eq_false_iff_ne.2 c14) ?_;refine aA rfl rfl ?_;refine TL.on rfl rfl rfl rfl (beq_eq_false_iff_ne.2 c14) ?_;refine aA rfl rfl ?_;refine TL.on rfl rfl rfl rfl (beq_eq_false_iff_ne.2 c14) ?_;refine aA rfl rfl ?_;refine TL.on rfl rfl rfl rfl (beq_eq_false_iff_ne.2 c14) ?_;refine aA rfl rfl ?_;refine TL.op1 (OpR.pickF rfl (beq_eq_false_iff_ne.2 c14) rfl) rfl ?_;refine TL.nil ?_;obtain rfl:=osi ht13;exact⟨_,Gst.only [0,2,20] rfl,rfl⟩
 rintro _ rfl;show T X _ _ _;rcases ite_some h0 with ⟨c17,h0⟩|⟨c17,h0⟩
 ·refine T.condT rfl (c17) ?_;refine aS ?_;refine TL.op1 (OpR.build rfl rfl rfl rfl rfl) rfl ?_;refine TL.op0 (OpR.store 0 rfl rfl rfl rfl rfl rfl rfl rfl) ?_;refine aN rfl ?_;refine T.ret ?_;obtain rfl:=osi h0;exact rO [] [2] rfl undef (cV 0 rfl rfl rfl rfl ResL.nil) rfl rfl rfl rfl
 refine T.condF rfl (eq_false_of_ne_true c17) ?_;refine aK rfl ?_;refine aS ?_;refine aA rfl rfl ?_;obtain⟨x18,hx18,h0⟩:=bS h0;obtain⟨x19,hx19,h0⟩:=bS h0;rw[o_tNd_eq hx19] at hx18;refine TL.op1 (OpR.indexM eNP hx18 rfl rfl rfl rfl rfl) rfl ?_;iterate 2 refine aA rfl rfl ?_
 refine aN rfl ?_;refine T.seq ?_;obtain⟨t20,ht20,h0⟩:=bS h0;refine T.cutC (fun S'=>S'=⟨[(3,.nod [.sl 1 (List.map eNP t20.1),.sl 3 (List.map e_row_Row t20.2.1),dN t20.2.2]),(2,(dP (blk p1)))],[.var (blk p1) [(eOP none)] 25],39⟩) (fun _ h=>h) ?_ ?_;rotate_left
 ·rintro _ rfl;show T X _ _ _;refine aS ?_;refine aA rfl rfl ?_;refine TL.op1 (OpR.build rfl rfl rfl rfl rfl) rfl ?_;refine TL.op0 (OpR.store 0 rfl rfl rfl rfl rfl rfl rfl rfl) ?_;refine aN rfl ?_;refine T.ret ?_;obtain rfl:=osi h0;exact rO [] [2] rfl undef (cV 0 rfl rfl rfl rfl ResL.nil) rfl rfl rfl rfl
 refine T.block ?_;obtain⟨n22,n27⟩:=loop_some ht20;refine T.loop (fun n S'=>∃ S'',Gst S' S''∧∃ s21:(List NP) × (List row_Row) × Int,S''=⟨[(3,.nod [.sl 1 (List.map eNP s21.1),.sl 3 (List.map e_row_Row s21.2.1),dN s21.2.2]),(2,(dP (blk p1)))],[.var (blk p1) [(eOP none)] 25],39⟩∧iter tree_above_row_Row.l2 n s21=some t20) n22 ?_ ?_
 ·exact⟨_,Gst.only [2,3] rfl,(x19.fKids,x19.fItems,x19.fN),rfl,n27⟩
 rintro n22 _ ⟨_,g,s21,rfl,i26⟩;refine T.ghost g ?_;obtain⟨m23,q24,rfl,q25,i26⟩:=iter_succ i26;unfold tree_above_row_Row.l2 at q25;refine T.seq ?_;refine aS ?_;iterate 4 refine aA rfl rfl ?_
 refine TL.op1 (OpR.cast (OpR.pure rfl) (intE (lenM _ _))) rfl ?_;refine aA rfl rfl ?_;refine aN rfl ?_;rcases ite_some q25 with ⟨c29,q25⟩|⟨c29,q25⟩;rotate_left
 ·refine T.condF rfl (beq_eq_false_iff_ne.2 c29) ?_;refine T.exit ?_;obtain rfl:=osi q25;obtain rfl:_=_:=i26;exact⟨_,Gst.only [2,3] rfl,rfl⟩
 refine T.condT rfl (beq_iff_eq.2 c29) ?_;refine aK rfl ?_;refine T.block ?_;refine T.region ?_;iterate 4 refine aA rfl rfl ?_
 obtain⟨x30,hx30,q25⟩:=bS q25;obtain⟨x31,hx31,q25⟩:=bS q25;rw[o_tNd_eq hx31] at hx30;refine TL.op1 (OpR.indexM eNP hx30 rfl rfl rfl rfl rfl) rfl ?_;iterate 2 refine aA rfl rfl ?_
 refine TL.nil ?_;obtain rfl:=osi q25;exact⟨m23,Nat.lt_succ_self _,_,Gst.only [2,3] rfl,(x31.fKids,x31.fItems,x31.fN),rfl,i26⟩
noncomputable def tree_Of_row_Row (a0:List row_Row):Option tTr:=
 bnd (tree_leaves_row_Row a0) fun x2=>
 bnd (tree_above_row_Row x2) fun x3=>
 some x3
theorem tree_Of_row_Row_c {a0:List row_Row} {res:tTr} (h0:tree_Of_row_Row a0=some res):CallF X 101 [.sl 3 (List.map e_row_Row a0)] [] (fun x=>.agg [(eOP res.fRoot)]) (fun x=>[]):=by
 unfold tree_Of_row_Row at h0;refine CallF.mkG (X:=X) rfl Tryz.func101 rfl rfl Tryz.ntmps101 rfl rfl ?_;refine aS ?_;refine TL.op (OpR.alloc rfl rfl (fun _=>rfl)) rfl (fun p1=>?_);refine aN rfl ?_;refine aS ?_;refine aA rfl rfl ?_;obtain⟨x2,hx2,h0⟩:=bS h0;refine TL.op1 (OpR.call0 fn169 (tree_leaves_row_Row_c hx2) rfl) rfl ?_;obtain⟨x3,hx3,h0⟩:=bS h0;refine TL.op1 (OpR.call0 fn168 (tree_above_row_Row_c hx3) rfl) rfl ?_;refine TL.op0 (OpR.store 0 rfl rfl rfl rfl rfl rfl rfl rfl) ?_;refine aN rfl ?_;refine T.ret ?_;obtain rfl:=osi h0;exact rO [] [2] rfl undef (cV 0 rfl rfl rfl rfl ResL.nil) rfl rfl rfl rfl
noncomputable def grid_ends.l1 (a0:List scan_Row) (x2:scan_Row) (s5:Int):Option (Lp Int (Ex Unit (Bool × Int))):=
 if s5<(a0.length:Int) then
 bnd (idx a0 s5) fun x14=>
 if x14.fEnd=0 then
 some (Lp.next (w64 (s5+1)))
else
 some (Lp.done (Ex.ret ((!(x2.fEnd==0)),x14.fEnd)))
else
 some (Lp.done (Ex.brk ()))
noncomputable def grid_ends (a0:List scan_Row):Option (Bool × Int):=
 if (a0.length:Int)=0 then
 some (false,2)
else
 bnd (idx a0 (w64 ((a0.length:Int)-1))) fun x2=>
 bnd (loop (grid_ends.l1 a0 x2) 0:Option (Ex Unit (Bool × Int))) fun t3=>match t3 with
| .brk u4=>
 some ((!(x2.fEnd==0)),2)
| .ret u4=>some u4
theorem grid_ends_c {a0:List scan_Row} {res:Bool × Int} (h0:grid_ends a0=some res):CallF X 132 [.sl 2 (List.map e_scan_Row a0)] [] (fun x=>.tup [dT res.1,dN res.2]) (fun x=>[]):=by
 unfold grid_ends at h0;refine CallF.mkG (X:=X) rfl Tryz.func132 rfl rfl Tryz.ntmps132 rfl rfl ?_;refine aS ?_;iterate 2 refine aA rfl rfl ?_
 refine aN rfl ?_;refine T.seq ?_;refine aS ?_;refine aA rfl rfl ?_;refine TL.op1 (OpR.cast (OpR.pure rfl) (intE (lenM _ _))) rfl ?_;refine aA rfl rfl ?_;refine aN rfl ?_;rcases ite_some h0 with ⟨c1,h0⟩|⟨c1,h0⟩
 ·refine T.condT rfl (beq_iff_eq.2 c1) ?_;refine aS ?_;iterate 2 refine aA rfl rfl ?_
  refine aN rfl ?_;refine T.ret ?_;obtain rfl:=osi h0;exact rO [] [2,3] rfl undef (cT rfl (cT rfl ResL.nil)) rfl rfl rfl rfl
 refine T.condF rfl (beq_eq_false_iff_ne.2 c1) ?_;refine aK rfl ?_;refine aS ?_;iterate 2 refine aA rfl rfl ?_
 refine TL.op1 (OpR.cast (OpR.pure rfl) (intE (lenM _ _))) rfl ?_;refine aA rfl rfl ?_;obtain⟨x2,hx2,h0⟩:=bS h0;refine TL.op1 (OpR.indexM e_scan_Row hx2 rfl rfl rfl rfl rfl) rfl ?_;iterate 4 refine aA rfl rfl ?_
 refine aN rfl ?_;refine T.seq ?_;refine aS ?_;refine aA rfl rfl ?_;refine TL.op1 (OpR.cast (OpR.pure rfl) (intE (lenM _ _))) rfl ?_;refine aA rfl rfl ?_;refine aN rfl ?_;obtain⟨t3,ht3,h0⟩:=bS h0;refine T.cutC (fun S'=>∃ u4,t3=Ex.brk u4∧S'=⟨[(4,(dT (!(x2.fEnd==0)))),(3,(dN 0)),(2,(dT false))],[],32⟩) (fun _ h=>h) ?_ ?_;rotate_left
 ·rintro _ ⟨u4,rfl,rfl⟩;show T X _ _ _;refine aS ?_;iterate 3 refine aA rfl rfl ?_
  refine aN rfl ?_;refine T.ret ?_;obtain rfl:=osi h0;exact rO [] [2,3] rfl undef (cT rfl (cT rfl ResL.nil)) rfl rfl rfl rfl
 refine T.block ?_;obtain⟨n6,n11⟩:=loop_some ht3;refine T.loop (fun n S'=>∃ S'',Gst S' S''∧∃ s5:Int,S''=⟨[(20,(dN s5)),(19,(dN (a0.length:Int))),(18,.sl 2 (List.map e_scan_Row a0)),(4,(dT (!(x2.fEnd==0)))),(3,(dN 0)),(2,(dT false))],[],32⟩∧iter (grid_ends.l1 a0 x2) n s5=some t3) n6 ?_ ?_
 ·exact⟨_,Gst.only [2,3,4,18,19,20] rfl,0,rfl,n11⟩
 rintro n6 _ ⟨_,g,s5,rfl,i10⟩;refine T.ghost g ?_;obtain⟨m7,q8,rfl,q9,i10⟩:=iter_succ i10;unfold grid_ends.l1 at q9;refine aS ?_;refine aA rfl rfl ?_;refine aN rfl ?_;refine T.seq ?_;rcases ite_some q9 with ⟨c13,q9⟩|⟨c13,q9⟩;rotate_left
 ·refine T.condF rfl (eF c13) ?_;refine T.exit ?_;obtain rfl:=osi q9;obtain rfl:_=_:=i10;exact⟨_,Gst.only [2,3,4] rfl,_,rfl,rfl⟩
 refine T.condT rfl (eT c13) ?_;refine aK rfl ?_;refine T.seq ?_;refine T.block ?_;refine aS ?_;obtain⟨x14,hx14,q9⟩:=bS q9;refine TL.op1 (OpR.indexM e_scan_Row hx14 rfl rfl rfl rfl rfl) rfl ?_;refine aA rfl rfl ?_;refine TL.op (OpR.alloc rfl rfl (fun _=>rfl)) rfl (fun p15=>?_);refine TL.op0 (OpR.store 0 rfl rfl rfl rfl rfl rfl rfl rfl) ?_;refine aN rfl ?_;refine aS ?_;refine aA rfl rfl ?_;refine TL.op1 (OpR.loadPtr 0 rfl rfl rfl rfl) rfl ?_;refine aA rfl rfl ?_;refine aN rfl ?_;rcases ite_some q9 with ⟨c16,q9⟩|⟨c16,q9⟩
 ·refine T.condF rfl (not_t (beq_iff_eq.2 c16)) ?_;refine aK rfl ?_;refine T.region ?_;iterate 2 refine aA rfl rfl ?_
  refine TL.nil ?_;obtain rfl:=osi q9;exact⟨m7,Nat.lt_succ_self _,_,gP [2,3,4,18,19,20] [] rfl rfl rfl,w64 (s5+1),rfl,i10⟩
 refine T.condT rfl (not_f (beq_eq_false_iff_ne.2 c16)) ?_;refine T.seq ?_;refine T.drawQ drawsX [dT (!(x2.fEnd==0)),.val (.pointer (some ⟨(blk p15),1,none⟩)),dN x14.fEnd,dT (!(x2.fEnd==0)),dN x14.fEnd] [2,3,4,18,19,20] (by decide +kernel) rfl ?_ rfl ?_;rotate_left
 ·show T X _ _ _;refine T.ret ?_;obtain rfl:=osi q9;obtain rfl:_=_:=i10;obtain rfl:=osi h0;exact rP [] [2,3] [] rfl rfl rfl undef (cT rfl (cT rfl ResL.nil)) rfl rfl rfl rfl
 iterate 2 refine aB rfl rfl rfl ?_
 refine OpsQ.yes (Want.plain rfl) rfl (OpR.loadPtr 0 rfl rfl rfl rfl) ?_;iterate 2 refine aB rfl rfl rfl ?_
 exact OpsQ.nil
noncomputable def grid_Load.l1 (x5:(List scan_Row)) (s13:Int × Int × (List row_Row)):Option (Lp (Int × Int × (List row_Row)) (Ex (List row_Row) ((grid_Grid × Int × (List UInt8)) ⊕ (grid_Grid × Int)))):=
 if s13.2.1<(x5.length:Int) then
 bnd (idx x5 s13.2.1) fun x22=>
 bnd (row_Load x22) fun x24=>
 bnd (idx s13.2.2 s13.2.1) fun x25=>
 if x24.2=0 then
 some (Lp.next (x24.2,w64 (s13.2.1+1),(s13.2.2.set s13.2.1.toNat x24.1)))
else
 bnd (grid_refused x24.2) fun x27=>
 some (Lp.done (Ex.ret (Sum.inl (x27.1,x27.2.1,x27.2.2))))
else
 some (Lp.done (Ex.brk s13.2.2))
noncomputable def grid_Load.l2 (x35:(List scan_Row)) (s43:Int × Int × (List row_Row)):Option (Lp (Int × Int × (List row_Row)) (Ex (List row_Row) ((grid_Grid × Int × (List UInt8)) ⊕ (grid_Grid × Int)))):=
 if s43.2.1<(x35.length:Int) then
 bnd (idx x35 s43.2.1) fun x52=>
 bnd (row_Load x52) fun x54=>
 bnd (idx s43.2.2 s43.2.1) fun x55=>
 if x54.2=0 then
 some (Lp.next (x54.2,w64 (s43.2.1+1),(s43.2.2.set s43.2.1.toNat x54.1)))
else
 bnd (grid_refused x54.2) fun x57=>
 some (Lp.done (Ex.ret (Sum.inl (x57.1,x57.2.1,x57.2.2))))
else
 some (Lp.done (Ex.brk s43.2.2))
noncomputable def grid_Load (a0:List UInt8):Option ((grid_Grid × Int × (List UInt8)) ⊕ (grid_Grid × Int)):=
 bnd (arena_New a0) fun x2=>
 match x2 with
 | .inl x2=>
  if x2=0 then
   bnd (scan_All a0) fun x5=>
   if (x5.length:Int)>400 then
    bnd (grid_refused 6) fun x7=>
    some (Sum.inl (x7.1,x7.2.1,x7.2.2))
   else
    bnd (mkz 40 (x5.length:Int) ((⟨[],0,false⟩:row_Row):row_Row)) fun x9=>
    bnd (loop (grid_Load.l1 x5) (x2,0,x9):Option (Ex (List row_Row) ((grid_Grid × Int × (List UInt8)) ⊕ (grid_Grid × Int)))) fun t11=>match t11 with
     | .brk u12=>
      bnd (tree_Of_row_Row u12) fun x29=>
      bnd (grid_ends x5) fun x31=>
      some (Sum.inr ((⟨x29,x31.1,x31.2⟩:grid_Grid),0))
     | .ret u12=>some u12
  else
   bnd (grid_refused x2) fun x32=>
   some (Sum.inl (x32.1,x32.2.1,x32.2.2))
 | .inr x2=>
  if x2.1=0 then
   bnd (scan_All a0) fun x35=>
   if (x35.length:Int)>400 then
    bnd (grid_refused 6) fun x37=>
    some (Sum.inl (x37.1,x37.2.1,x37.2.2))
   else
    bnd (mkz 40 (x35.length:Int) ((⟨[],0,false⟩:row_Row):row_Row)) fun x39=>
    bnd (loop (grid_Load.l2 x35) (x2.1,0,x39):Option (Ex (List row_Row) ((grid_Grid × Int × (List UInt8)) ⊕ (grid_Grid × Int)))) fun t41=>match t41 with
     | .brk u42=>
      bnd (tree_Of_row_Row u42) fun x59=>
      bnd (grid_ends x35) fun x61=>
      some (Sum.inl ((⟨x59,x61.1,x61.2⟩:grid_Grid),0,x2.2))
     | .ret u42=>some u42
  else
   bnd (grid_refused x2.1) fun x62=>
   some (Sum.inl (x62.1,x62.2.1,x62.2.2))
theorem grid_Load_c {a0:List UInt8} {res:(grid_Grid × Int × (List UInt8)) ⊕ (grid_Grid × Int)} (h0:grid_Load a0=some res):CallF X 67 [.sl 1 (lB a0)] [] (fun x=>(match res with | .inl res=>.tup [.agg [(eOP res.1.fRows.fRoot),dT res.1.fTail,dN res.1.fEnd],dP (blk (vn x 0)),dN res.2.1] | .inr res=>.tup [.agg [(eOP res.1.fRows.fRoot),dT res.1.fTail,dN res.1.fEnd],dQ,dN res.2])) (fun x=>(match res with | .inl res=>[.var (blk (vn x 0)) [.val (vn x 1)] 264,.row (vn x 1) (lB res.2.2) 1 5] | .inr res=>[])):=by
 unfold grid_Load at h0;refine CallF.mkG (X:=X) rfl Tryz.func67 rfl rfl Tryz.ntmps67 rfl rfl ?_;refine aS ?_;refine TL.op (OpR.alloc rfl rfl (fun _=>rfl)) rfl (fun p1=>?_);iterate 2 refine aA rfl rfl ?_
 refine aN rfl ?_;refine aS ?_;refine aA rfl rfl ?_;obtain⟨x2,hx2,h0⟩:=bS h0;rcases x2 with x2|x2
 ·dsimp only at h0;refine TL.op1 (OpR.call0 fn128 (arena_New_cx1 hx2) rfl) rfl ?_;iterate 5 refine aA rfl rfl ?_
  refine aN rfl ?_;refine T.seq ?_;refine aS ?_;iterate 2 refine aA rfl rfl ?_
  refine aN rfl ?_;rcases ite_some h0 with ⟨c4,h0⟩|⟨c4,h0⟩;rotate_left
  ·refine T.condT rfl (not_f (beq_eq_false_iff_ne.2 c4)) ?_;refine aS ?_;refine aA rfl rfl ?_;obtain⟨x32,hx32,h0⟩:=bS h0;refine TL.op (OpR.call [] fn129 (grid_refused_c hx32) rfl rfl rfl (fun _=>rfl)) rfl (fun w33=>?_);iterate 3 refine aA rfl rfl ?_
   refine TL.op0 (OpR.store 0 rfl rfl rfl rfl rfl rfl rfl rfl) ?_;iterate 2 refine aA rfl rfl ?_
   refine aN rfl ?_;refine T.ret ?_;obtain rfl:=osi h0;exact rO [1,2] [2,3,4] rfl (.tuple #[(vn w33 0),(vn w33 1)]) (cV 0 rfl rfl rfl rfl (cT rfl (cT rfl ResL.nil))) rfl rfl rfl rfl
  refine T.condF rfl (not_t (beq_iff_eq.2 c4)) ?_;refine aK rfl ?_;refine aS ?_;refine aA rfl rfl ?_;obtain⟨x5,hx5,h0⟩:=bS h0;refine TL.op1 (OpR.call0 fn130 (scan_All_c hx5) rfl) rfl ?_;refine aA rfl rfl ?_;refine aN rfl ?_;refine T.seq ?_;refine aS ?_;refine aA rfl rfl ?_;refine TL.op1 (OpR.cast (OpR.pure rfl) (intE (lenM _ _))) rfl ?_;refine aA rfl rfl ?_;refine aN rfl ?_;rcases ite_some h0 with ⟨c6,h0⟩|⟨c6,h0⟩
  ·refine T.condT rfl (eT c6) ?_;refine aS ?_;obtain⟨x7,hx7,h0⟩:=bS h0;refine TL.op (OpR.call [] fn129 (grid_refused_c hx7) rfl rfl rfl (fun _=>rfl)) rfl (fun w8=>?_);iterate 3 refine aA rfl rfl ?_
   refine TL.op0 (OpR.store 0 rfl rfl rfl rfl rfl rfl rfl rfl) ?_;iterate 2 refine aA rfl rfl ?_
   refine aN rfl ?_;refine T.ret ?_;obtain rfl:=osi h0;exact rO [1,2] [2,3,4] rfl (.tuple #[(vn w8 0),(vn w8 1)]) (cV 0 rfl rfl rfl rfl (cT rfl (cT rfl ResL.nil))) rfl rfl rfl rfl
  refine T.condF rfl (eF c6) ?_;refine aK rfl ?_;refine aS ?_;refine aA rfl rfl ?_;refine TL.op1 (OpR.cast (OpR.pure rfl) (intE (lenM _ _))) rfl ?_;obtain⟨x9,hx9,h0⟩:=bS h0;refine TL.op (OpR.makeN e_row_Row hx9 rfl rfl rfl rfl rfl rfl rfl rfl rfl rfl (ReL.cons (Re.base .nil) (ReL.cons Re.refl (ReL.cons Re.refl ReL.nil))) rfl (fun _=>rfl)) rfl (fun v10=>?_);refine aA rfl rfl ?_;refine aN rfl ?_;refine T.seq ?_;refine aS ?_;refine aA rfl rfl ?_;refine TL.op1 (OpR.cast (OpR.pure rfl) (intE (lenM _ _))) rfl ?_;refine aA rfl rfl ?_;refine aN rfl ?_;obtain⟨t11,ht11,h0⟩:=bS h0;refine T.cutC (fun S'=>∃ u12,t11=Ex.brk u12∧S'=⟨[(8,.val v10),(7,.sl 2 (List.map e_scan_Row x5)),(5,dQ),(4,(dN 0)),(3,dQ),(2,(dP (blk p1)))],[.var (blk p1) [(eOP none),dT false,dN 0] 27,.row v10 (List.map e_row_Row u12) 3 49],71⟩) (fun _ h=>h) ?_ ?_;rotate_left
  ·rintro _ ⟨u12,rfl,rfl⟩;show T X _ _ _;refine aS ?_;refine aA rfl rfl ?_;refine TL.ghost (Gst.freezeRow 1 rfl rfl (ReS.cons (Re.base .all) (ReS.refl _)) (ReO.same (ReO.same ReO.nil))) ?_;obtain⟨x29,hx29,h0⟩:=bS h0;refine TL.op1 (OpR.call0 fn101 (tree_Of_row_Row_c hx29) rfl) rfl ?_;refine TL.op1 (OpR.build rfl rfl rfl rfl rfl) rfl ?_;refine TL.op (OpR.alloc rfl rfl (fun _=>rfl)) rfl (fun p30=>?_);refine TL.op0 (OpR.store 2 rfl rfl rfl rfl rfl rfl rfl rfl) ?_;refine aN rfl ?_;refine aS ?_;refine aA rfl rfl ?_;obtain⟨x31,hx31,h0⟩:=bS h0;refine TL.op1 (OpR.call0 fn132 (grid_ends_c hx31) rfl) rfl ?_;iterate 4 refine aA rfl rfl ?_
   refine TL.op0 (OpR.store 2 rfl rfl rfl rfl rfl rfl rfl rfl) ?_;refine aA rfl rfl ?_;refine TL.op0 (OpR.store 2 rfl rfl rfl rfl rfl rfl rfl rfl) ?_;refine aN rfl ?_;refine aS ?_;refine TL.op1 (OpR.loadPtr 2 rfl rfl rfl rfl) rfl ?_;refine aA rfl rfl ?_;refine TL.op0 (OpR.store 0 rfl rfl rfl rfl rfl rfl rfl rfl) ?_;iterate 2 refine aA rfl rfl ?_
   refine aN rfl ?_;refine T.ret ?_;obtain rfl:=osi h0;exact rP [] [2,3,4] [0] rfl rfl rfl undef (cV 0 rfl rfl rfl rfl (cT rfl (cT rfl ResL.nil))) rfl rfl rfl rfl
  refine T.block ?_;obtain⟨n14,n19⟩:=loop_some ht11;refine T.loop (fun n S'=>∃ S'',Gst S' S''∧∃ s13:Int × Int × (List row_Row),S''=⟨[(38,(dN s13.2.1)),(37,(dN (x5.length:Int))),(36,.sl 2 (List.map e_scan_Row x5)),(8,.val v10),(7,.sl 2 (List.map e_scan_Row x5)),(6,(dN s13.1)),(5,dQ),(4,(dN 0)),(3,dQ),(2,(dP (blk p1)))],[.var (blk p1) [(eOP none),dT false,dN 0] 27,.row v10 (List.map e_row_Row s13.2.2) 3 49],71⟩∧iter (grid_Load.l1 x5) n s13=some t11) n14 ?_ ?_
  ·exact⟨_,Gst.only [2,3,4,5,6,7,8,36,37,38] rfl,(x2,0,x9),rfl,n19⟩
  rintro n14 _ ⟨_,g,s13,rfl,i18⟩;refine T.ghost g ?_;obtain⟨m15,q16,rfl,q17,i18⟩:=iter_succ i18;unfold grid_Load.l1 at q17;refine aS ?_;refine aA rfl rfl ?_;refine aN rfl ?_;refine T.seq ?_;rcases ite_some q17 with ⟨c21,q17⟩|⟨c21,q17⟩;rotate_left
  ·refine T.condF rfl (eF c21) ?_;refine T.exit ?_;obtain rfl:=osi q17;obtain rfl:_=_:=i18;exact⟨_,Gst.only [2,3,4,5,7,8] rfl,_,rfl,rfl⟩
  refine T.condT rfl (eT c21) ?_;refine aK rfl ?_;refine T.seq ?_;refine T.block ?_;refine aS ?_;refine aA rfl rfl ?_;obtain⟨x22,hx22,q17⟩:=bS q17;refine TL.op1 (OpR.indexM e_scan_Row hx22 rfl rfl rfl rfl rfl) rfl ?_;refine aA rfl rfl ?_;refine TL.op (OpR.alloc rfl rfl (fun _=>rfl)) rfl (fun p23=>?_);refine aA rfl rfl ?_;refine TL.op0 (OpR.store 2 rfl rfl rfl rfl rfl rfl rfl rfl) ?_;refine aN rfl ?_;refine aS ?_;iterate 2 refine aA rfl rfl ?_
  refine TL.op1 (OpR.loadPtr 2 rfl rfl rfl rfl) rfl ?_;obtain⟨x24,hx24,q17⟩:=bS q17;refine TL.op1 (OpR.call0 fn131 (row_Load_c hx24) rfl) rfl ?_;iterate 3 refine aA rfl rfl ?_
  obtain⟨x25,hx25,q17⟩:=bS q17;refine TL.op1 (OpR.rowIndexM e_row_Row 1 hx25 rfl rfl rfl rfl rfl rfl rfl) rfl ?_;refine TL.op0 (OpR.rowStore0M (j:=s13.2.1) e_row_Row x24.1 1 hx25 rfl rfl rfl rfl rfl rfl rfl rfl rfl) ?_;refine aA rfl rfl ?_;refine aN rfl ?_;refine aS ?_;iterate 2 refine aA rfl rfl ?_
  refine aN rfl ?_;rcases ite_some q17 with ⟨c26,q17⟩|⟨c26,q17⟩
  ·refine T.condF rfl (not_t (beq_iff_eq.2 c26)) ?_;refine aK rfl ?_;refine T.region ?_;iterate 2 refine aA rfl rfl ?_
   refine TL.nil ?_;obtain rfl:=osi q17;exact⟨m15,Nat.lt_succ_self _,_,gP [2,3,4,5,6,7,8,36,37,38] [0,1] rfl rfl rfl,(x24.2,w64 (s13.2.1+1),(s13.2.2.set s13.2.1.toNat x24.1)),rfl,i18⟩
  refine T.condT rfl (not_f (beq_eq_false_iff_ne.2 c26)) ?_;refine aS ?_;refine aA rfl rfl ?_;obtain⟨x27,hx27,q17⟩:=bS q17;refine TL.op (OpR.call [] fn129 (grid_refused_c hx27) rfl rfl rfl (fun _=>rfl)) rfl (fun w28=>?_);iterate 3 refine aA rfl rfl ?_
  refine TL.op0 (OpR.store 0 rfl rfl rfl rfl rfl rfl rfl rfl) ?_;iterate 2 refine aA rfl rfl ?_
  refine aN rfl ?_;refine T.ret ?_;obtain rfl:=osi q17;obtain rfl:_=_:=i18;obtain rfl:=osi h0;exact rP [1,2] [2,3,4] [0,3,4] rfl rfl rfl (.tuple #[(vn w28 0),(vn w28 1)]) (cV 0 rfl rfl rfl rfl (cT rfl (cT rfl ResL.nil))) rfl rfl rfl rfl
 dsimp only at h0;refine TL.op (OpR.call [] fn128 (arena_New_cx2 hx2) rfl rfl rfl (fun _=>rfl)) rfl (fun w3=>?_);iterate 5 refine aA rfl rfl ?_
 refine aN rfl ?_;refine T.seq ?_;refine aS ?_;iterate 2 refine aA rfl rfl ?_
 refine aN rfl ?_;rcases ite_some h0 with ⟨c34,h0⟩|⟨c34,h0⟩;rotate_left
 ·refine T.condT rfl (not_f (beq_eq_false_iff_ne.2 c34)) ?_;refine aS ?_;refine aA rfl rfl ?_;obtain⟨x62,hx62,h0⟩:=bS h0;refine TL.op (OpR.call [] fn129 (grid_refused_c hx62) rfl rfl rfl (fun _=>rfl)) rfl (fun w63=>?_);iterate 3 refine aA rfl rfl ?_
  refine TL.op0 (OpR.store 0 rfl rfl rfl rfl rfl rfl rfl rfl) ?_;iterate 2 refine aA rfl rfl ?_
  refine aN rfl ?_;refine T.ret ?_;obtain rfl:=osi h0;exact rP [1,2] [2,3,4] [0,3,4] rfl rfl rfl (.tuple #[(vn w63 0),(vn w63 1)]) (cV 0 rfl rfl rfl rfl (cT rfl (cT rfl ResL.nil))) rfl rfl rfl rfl
 refine T.condF rfl (not_t (beq_iff_eq.2 c34)) ?_;refine aK rfl ?_;refine aS ?_;refine aA rfl rfl ?_;obtain⟨x35,hx35,h0⟩:=bS h0;refine TL.op1 (OpR.call0 fn130 (scan_All_c hx35) rfl) rfl ?_;refine aA rfl rfl ?_;refine aN rfl ?_;refine T.seq ?_;refine aS ?_;refine aA rfl rfl ?_;refine TL.op1 (OpR.cast (OpR.pure rfl) (intE (lenM _ _))) rfl ?_;refine aA rfl rfl ?_;refine aN rfl ?_;rcases ite_some h0 with ⟨c36,h0⟩|⟨c36,h0⟩
 ·refine T.condT rfl (eT c36) ?_;refine aS ?_;obtain⟨x37,hx37,h0⟩:=bS h0;refine TL.op (OpR.call [] fn129 (grid_refused_c hx37) rfl rfl rfl (fun _=>rfl)) rfl (fun w38=>?_);iterate 3 refine aA rfl rfl ?_
  refine TL.op0 (OpR.store 0 rfl rfl rfl rfl rfl rfl rfl rfl) ?_;iterate 2 refine aA rfl rfl ?_
  refine aN rfl ?_;refine T.ret ?_;obtain rfl:=osi h0;exact rP [1,2] [2,3,4] [0,3,4] rfl rfl rfl (.tuple #[(vn w38 0),(vn w38 1)]) (cV 0 rfl rfl rfl rfl (cT rfl (cT rfl ResL.nil))) rfl rfl rfl rfl
 refine T.condF rfl (eF c36) ?_;refine aK rfl ?_;refine aS ?_;refine aA rfl rfl ?_;refine TL.op1 (OpR.cast (OpR.pure rfl) (intE (lenM _ _))) rfl ?_;obtain⟨x39,hx39,h0⟩:=bS h0;refine TL.op (OpR.makeN e_row_Row hx39 rfl rfl rfl rfl rfl rfl rfl rfl rfl rfl (ReL.cons (Re.base .nil) (ReL.cons Re.refl (ReL.cons Re.refl ReL.nil))) rfl (fun _=>rfl)) rfl (fun v40=>?_);refine aA rfl rfl ?_;refine aN rfl ?_;refine T.seq ?_;refine aS ?_;refine aA rfl rfl ?_;refine TL.op1 (OpR.cast (OpR.pure rfl) (intE (lenM _ _))) rfl ?_;refine aA rfl rfl ?_;refine aN rfl ?_;obtain⟨t41,ht41,h0⟩:=bS h0;refine T.cutC (fun S'=>∃ u42,t41=Ex.brk u42∧S'=⟨[(8,.val v40),(7,.sl 2 (List.map e_scan_Row x35)),(5,(dP (blk (vn w3 0)))),(4,(dN 0)),(3,dQ),(2,(dP (blk p1)))],[.var (blk p1) [(eOP none),dT false,dN 0] 27,.var (blk (vn w3 0)) [.val (vn w3 1)] 264,.row v40 (List.map e_row_Row u42) 3 49,.row (vn w3 1) (lB x2.2) 1 5],71⟩) (fun _ h=>h) ?_ ?_;rotate_left
 ·rintro _ ⟨u42,rfl,rfl⟩;show T X _ _ _;refine aS ?_;refine aA rfl rfl ?_;refine TL.ghost (Gst.freezeRow 2 rfl rfl (ReS.cons (Re.base .all) (ReS.refl _)) (ReO.same (ReO.same (ReO.same (ReO.same ReO.nil))))) ?_;obtain⟨x59,hx59,h0⟩:=bS h0;refine TL.op1 (OpR.call0 fn101 (tree_Of_row_Row_c hx59) rfl) rfl ?_;refine TL.op1 (OpR.build rfl rfl rfl rfl rfl) rfl ?_;refine TL.op (OpR.alloc rfl rfl (fun _=>rfl)) rfl (fun p60=>?_);refine TL.op0 (OpR.store 4 rfl rfl rfl rfl rfl rfl rfl rfl) ?_;refine aN rfl ?_;refine aS ?_;refine aA rfl rfl ?_;obtain⟨x61,hx61,h0⟩:=bS h0;refine TL.op1 (OpR.call0 fn132 (grid_ends_c hx61) rfl) rfl ?_;iterate 4 refine aA rfl rfl ?_
  refine TL.op0 (OpR.store 4 rfl rfl rfl rfl rfl rfl rfl rfl) ?_;refine aA rfl rfl ?_;refine TL.op0 (OpR.store 4 rfl rfl rfl rfl rfl rfl rfl rfl) ?_;refine aN rfl ?_;refine aS ?_;refine TL.op1 (OpR.loadPtr 4 rfl rfl rfl rfl) rfl ?_;refine aA rfl rfl ?_;refine TL.op0 (OpR.store 0 rfl rfl rfl rfl rfl rfl rfl rfl) ?_;iterate 2 refine aA rfl rfl ?_
  refine aN rfl ?_;refine T.ret ?_;obtain rfl:=osi h0;exact rP [1,2] [2,3,4] [0,1,3] rfl rfl rfl (.tuple #[(vn w3 0),(vn w3 1)]) (cV 0 rfl rfl rfl rfl (cT rfl (cT rfl ResL.nil))) rfl rfl rfl rfl
 refine T.block ?_;obtain⟨n44,n49⟩:=loop_some ht41;refine T.loop (fun n S'=>∃ S'',Gst S' S''∧∃ s43:Int × Int × (List row_Row),S''=⟨[(38,(dN s43.2.1)),(37,(dN (x35.length:Int))),(36,.sl 2 (List.map e_scan_Row x35)),(8,.val v40),(7,.sl 2 (List.map e_scan_Row x35)),(6,(dN s43.1)),(5,(dP (blk (vn w3 0)))),(4,(dN 0)),(3,dQ),(2,(dP (blk p1)))],[.var (blk p1) [(eOP none),dT false,dN 0] 27,.var (blk (vn w3 0)) [.val (vn w3 1)] 264,.row v40 (List.map e_row_Row s43.2.2) 3 49,.row (vn w3 1) (lB x2.2) 1 5],71⟩∧iter (grid_Load.l2 x35) n s43=some t41) n44 ?_ ?_
 ·exact⟨_,gP [2,3,4,5,6,7,8,36,37,38] [0,1,3,2] rfl rfl rfl,(x2.1,0,x39),rfl,n49⟩
 rintro n44 _ ⟨_,g,s43,rfl,i48⟩;refine T.ghost g ?_;obtain⟨m45,q46,rfl,q47,i48⟩:=iter_succ i48;unfold grid_Load.l2 at q47;refine aS ?_;refine aA rfl rfl ?_;refine aN rfl ?_;refine T.seq ?_;rcases ite_some q47 with ⟨c51,q47⟩|⟨c51,q47⟩;rotate_left
 ·refine T.condF rfl (eF c51) ?_;refine T.exit ?_;obtain rfl:=osi q47;obtain rfl:_=_:=i48;exact⟨_,Gst.only [2,3,4,5,7,8] rfl,_,rfl,rfl⟩
 refine T.condT rfl (eT c51) ?_;refine aK rfl ?_;refine T.seq ?_;refine T.block ?_;refine aS ?_;refine aA rfl rfl ?_;obtain⟨x52,hx52,q47⟩:=bS q47;refine TL.op1 (OpR.indexM e_scan_Row hx52 rfl rfl rfl rfl rfl) rfl ?_;refine aA rfl rfl ?_;refine TL.op (OpR.alloc rfl rfl (fun _=>rfl)) rfl (fun p53=>?_);refine aA rfl rfl ?_;refine TL.op0 (OpR.store 4 rfl rfl rfl rfl rfl rfl rfl rfl) ?_;refine aN rfl ?_;refine aS ?_;iterate 2 refine aA rfl rfl ?_
 refine TL.op1 (OpR.loadPtr 4 rfl rfl rfl rfl) rfl ?_;obtain⟨x54,hx54,q47⟩:=bS q47;refine TL.op1 (OpR.call0 fn131 (row_Load_c hx54) rfl) rfl ?_;iterate 3 refine aA rfl rfl ?_
 obtain⟨x55,hx55,q47⟩:=bS q47;refine TL.op1 (OpR.rowIndexM e_row_Row 2 hx55 rfl rfl rfl rfl rfl rfl rfl) rfl ?_;refine TL.op0 (OpR.rowStore0M (j:=s43.2.1) e_row_Row x54.1 2 hx55 rfl rfl rfl rfl rfl rfl rfl rfl rfl) ?_;refine aA rfl rfl ?_;refine aN rfl ?_;refine aS ?_;iterate 2 refine aA rfl rfl ?_
 refine aN rfl ?_;rcases ite_some q47 with ⟨c56,q47⟩|⟨c56,q47⟩
 ·refine T.condF rfl (not_t (beq_iff_eq.2 c56)) ?_;refine aK rfl ?_;refine T.region ?_;iterate 2 refine aA rfl rfl ?_
  refine TL.nil ?_;obtain rfl:=osi q47;exact⟨m45,Nat.lt_succ_self _,_,gP [2,3,4,5,6,7,8,36,37,38] [0,1,2,3] rfl rfl rfl,(x54.2,w64 (s43.2.1+1),(s43.2.2.set s43.2.1.toNat x54.1)),rfl,i48⟩
 refine T.condT rfl (not_f (beq_eq_false_iff_ne.2 c56)) ?_;refine aS ?_;refine aA rfl rfl ?_;obtain⟨x57,hx57,q47⟩:=bS q47;refine TL.op (OpR.call [] fn129 (grid_refused_c hx57) rfl rfl rfl (fun _=>rfl)) rfl (fun w58=>?_);iterate 3 refine aA rfl rfl ?_
 refine TL.op0 (OpR.store 0 rfl rfl rfl rfl rfl rfl rfl rfl) ?_;iterate 2 refine aA rfl rfl ?_
 refine aN rfl ?_;refine T.ret ?_;obtain rfl:=osi q47;obtain rfl:_=_:=i48;obtain rfl:=osi h0;exact rP [1,2] [2,3,4] [0,5,6] rfl rfl rfl (.tuple #[(vn w58 0),(vn w58 1)]) (cV 0 rfl rfl rfl rfl (cT rfl (cT rfl ResL.nil))) rfl rfl rfl rfl
theorem grid_Load_cx1 {a0:List UInt8} {res:grid_Grid × Int × (List UInt8)} (h0:grid_Load a0=some (Sum.inl res)):CallF X 67 [.sl 1 (lB a0)] [] (fun x=>.tup [.agg [(eOP res.1.fRows.fRoot),dT res.1.fTail,dN res.1.fEnd],dP (blk (vn x 0)),dN res.2.1]) (fun x=>[.var (blk (vn x 0)) [.val (vn x 1)] 264,.row (vn x 1) (lB res.2.2) 1 5]):=grid_Load_c h0
theorem grid_Load_cx2 {a0:List UInt8} {res:grid_Grid × Int} (h0:grid_Load a0=some (Sum.inr res)):CallF X 67 [.sl 1 (lB a0)] [] (fun x=>.tup [.agg [(eOP res.1.fRows.fRoot),dT res.1.fTail,dN res.1.fEnd],dQ,dN res.2]) (fun x=>[]):=grid_Load_c h0
noncomputable def ref05_quote (a0:List UInt8) (a1:Int):Option Bool:=
 bnd (if a1<(a0.length:Int) then
 bnd (idx a0 a1) fun x3=>
 some ((x3.toNat:Int)==34)
else
 some false:Option Bool) fun t1=>
 some t1
theorem ref05_quote_c {a0:List UInt8} {a1:Int} {res:Bool} (h0:ref05_quote a0 a1=some res):CallF X 255 [.val (.string (bs a0)),dN a1] [] (fun x=>(dT res)) (fun x=>[]):=by
 unfold ref05_quote at h0;refine CallF.mkG (X:=X) rfl Tryz.func255 rfl rfl Tryz.ntmps255 rfl rfl ?_;refine aS ?_;refine aA rfl rfl ?_;refine aN rfl ?_;refine T.seq ?_;obtain⟨t1,ht1,h0⟩:=bS h0;refine T.cutC (fun S'=>S'=⟨[(4,(dT t1))],[],15⟩) (fun _ h=>h) ?_ ?_;rotate_left
 ·rintro _ rfl;show T X _ _ _;refine T.ret ?_;obtain rfl:=osi h0;exact rO [] [4] rfl undef (cT rfl ResL.nil) rfl rfl rfl rfl
 refine T.region ?_;iterate 2 refine aA rfl rfl ?_
 refine TL.op1 (OpR.cast (OpR.pure rfl) (intE (lenS _))) rfl ?_;iterate 2 refine aA rfl rfl ?_
 rcases ite_some ht1 with ⟨c2,ht1⟩|⟨c2,ht1⟩;rotate_left
 ·refine TL.off rfl rfl rfl rfl (eF c2) rfl rfl ?_;refine TL.off rfl rfl rfl rfl (eF c2) rfl rfl ?_;refine TL.off rfl rfl rfl rfl (eF c2) rfl rfl ?_;refine TL.off rfl rfl rfl rfl (eF c2) rfl rfl ?_;refine TL.op1 (OpR.pickF rfl (eF c2) rfl) rfl ?_;refine aA rfl rfl ?_;refine TL.nil ?_;obtain rfl:=osi ht1;exact⟨_,Gst.only [4] rfl,rfl⟩
 refine TL.on rfl rfl rfl rfl (eT c2) ?_;refine aA rfl rfl ?_;refine TL.on rfl rfl rfl rfl (eT c2) ?_;refine aA rfl rfl ?_;refine TL.on rfl rfl rfl rfl (eT c2) ?_;obtain⟨x3,hx3,ht1⟩:=bS ht1;refine TL.op1 (OpR.indexS hx3 rfl rfl rfl rfl) rfl ?_;refine TL.on rfl rfl rfl rfl (eT c2) ?_;refine aA rfl rfl ?_;refine TL.op1 (OpR.pickT rfl (eT c2) rfl) rfl ?_;refine aA rfl rfl ?_;refine TL.nil ?_;obtain rfl:=osi ht1;exact⟨_,Gst.only [4] rfl,rfl⟩
noncomputable def ref05_mark (a0:List UInt8) (a1:Int):Option Bool:=
 bnd (if a1≥(a0.length:Int) then
 some true
else
 bnd (idx a0 a1) fun x3=>
 if (x3.toNat:Int)=44 then
 some true
else
 if (x3.toNat:Int)=13 then
 some true
else
 some ((x3.toNat:Int)==10):Option Bool) fun t1=>
 some t1
theorem ref05_mark_c {a0:List UInt8} {a1:Int} {res:Bool} (h0:ref05_mark a0 a1=some res):CallF X 272 [.val (.string (bs a0)),dN a1] [] (fun x=>(dT res)) (fun x=>[]):=by
 unfold ref05_mark at h0;refine CallF.mkG (X:=X) rfl Tryz.func272 rfl rfl Tryz.ntmps272 rfl rfl ?_;refine aS ?_;refine aA rfl rfl ?_;refine aN rfl ?_;refine T.seq ?_;obtain⟨t1,ht1,h0⟩:=bS h0;refine T.cutC (fun S'=>S'=⟨[(4,(dT t1))],[],27⟩) (fun _ h=>h) ?_ ?_;rotate_left
 ·rintro _ rfl;show T X _ _ _;refine T.ret ?_;obtain rfl:=osi h0;exact rO [] [4] rfl undef (cT rfl ResL.nil) rfl rfl rfl rfl
 refine T.region ?_;iterate 2 refine aA rfl rfl ?_
 refine TL.op1 (OpR.cast (OpR.pure rfl) (intE (lenS _))) rfl ?_;iterate 2 refine aA rfl rfl ?_
 rcases ite_some ht1 with ⟨c2,ht1⟩|⟨c2,ht1⟩
 ·refine TL.off rfl rfl rfl rfl (eT c2) rfl rfl ?_;refine TL.off rfl rfl rfl rfl (eT c2) rfl rfl ?_;refine TL.off rfl rfl rfl rfl (eT c2) rfl rfl ?_;refine TL.off rfl rfl rfl rfl (eT c2) rfl rfl ?_;refine TL.op1 (OpR.pickT rfl (eT c2) rfl) rfl ?_;refine aA rfl rfl ?_;refine TL.off rfl rfl rfl rfl rfl rfl rfl ?_;refine TL.off rfl rfl rfl rfl rfl rfl rfl ?_;refine TL.off rfl rfl rfl rfl rfl rfl rfl ?_;refine TL.off rfl rfl rfl rfl rfl rfl rfl ?_;refine TL.op1 (OpR.pickT rfl rfl rfl) rfl ?_;refine aA rfl rfl ?_;refine TL.off rfl rfl rfl rfl rfl rfl rfl ?_;refine TL.off rfl rfl rfl rfl rfl rfl rfl ?_;refine TL.off rfl rfl rfl rfl rfl rfl rfl ?_;refine TL.off rfl rfl rfl rfl rfl rfl rfl ?_;refine TL.op1 (OpR.pickT rfl rfl rfl) rfl ?_;refine aA rfl rfl ?_;refine TL.nil ?_;obtain rfl:=osi ht1;exact⟨_,Gst.only [4] rfl,rfl⟩
 refine TL.on rfl rfl rfl rfl (eF c2) ?_;refine aA rfl rfl ?_;refine TL.on rfl rfl rfl rfl (eF c2) ?_;refine aA rfl rfl ?_;refine TL.on rfl rfl rfl rfl (eF c2) ?_;obtain⟨x3,hx3,ht1⟩:=bS ht1;refine TL.op1 (OpR.indexS hx3 rfl rfl rfl rfl) rfl ?_;refine TL.on rfl rfl rfl rfl (eF c2) ?_;refine aA rfl rfl ?_;refine TL.op1 (OpR.pickF rfl (eF c2) rfl) rfl ?_;refine aA rfl rfl ?_;rcases ite_some ht1 with ⟨c4,ht1⟩|⟨c4,ht1⟩
 ·refine TL.off rfl rfl rfl rfl (beq_iff_eq.2 c4) rfl rfl ?_;refine TL.off rfl rfl rfl rfl (beq_iff_eq.2 c4) rfl rfl ?_;refine TL.off rfl rfl rfl rfl (beq_iff_eq.2 c4) rfl rfl ?_;refine TL.off rfl rfl rfl rfl (beq_iff_eq.2 c4) rfl rfl ?_;refine TL.op1 (OpR.pickT rfl (beq_iff_eq.2 c4) rfl) rfl ?_;refine aA rfl rfl ?_;refine TL.off rfl rfl rfl rfl rfl rfl rfl ?_;refine TL.off rfl rfl rfl rfl rfl rfl rfl ?_;refine TL.off rfl rfl rfl rfl rfl rfl rfl ?_;refine TL.off rfl rfl rfl rfl rfl rfl rfl ?_;refine TL.op1 (OpR.pickT rfl rfl rfl) rfl ?_;refine aA rfl rfl ?_;refine TL.nil ?_;obtain rfl:=osi ht1;exact⟨_,Gst.only [4] rfl,rfl⟩
 refine TL.on rfl rfl rfl rfl (beq_eq_false_iff_ne.2 c4) ?_;refine aA rfl rfl ?_;refine TL.on rfl rfl rfl rfl (beq_eq_false_iff_ne.2 c4) ?_;refine aA rfl rfl ?_;refine TL.on rfl rfl rfl rfl (beq_eq_false_iff_ne.2 c4) ?_;refine TL.op1 (OpR.indexS hx3 rfl rfl rfl rfl) rfl ?_;refine TL.on rfl rfl rfl rfl (beq_eq_false_iff_ne.2 c4) ?_;refine aA rfl rfl ?_;refine TL.op1 (OpR.pickF rfl (beq_eq_false_iff_ne.2 c4) rfl) rfl ?_;refine aA rfl rfl ?_;rcases ite_some ht1 with ⟨c5,ht1⟩|⟨c5,ht1⟩
 ·refine TL.off rfl rfl rfl rfl (beq_iff_eq.2 c5) rfl rfl ?_;refine TL.off rfl rfl rfl rfl (beq_iff_eq.2 c5) rfl rfl ?_;refine TL.off rfl rfl rfl rfl (beq_iff_eq.2 c5) rfl rfl ?_;refine TL.off rfl rfl rfl rfl (beq_iff_eq.2 c5) rfl rfl ?_;refine TL.op1 (OpR.pickT rfl (beq_iff_eq.2 c5) rfl) rfl ?_;refine aA rfl rfl ?_;refine TL.nil ?_;obtain rfl:=osi ht1;exact⟨_,Gst.only [4] rfl,rfl⟩
 refine TL.on rfl rfl rfl rfl (beq_eq_false_iff_ne.2 c5) ?_;refine aA rfl rfl ?_;refine TL.on rfl rfl rfl rfl (beq_eq_false_iff_ne.2 c5) ?_;refine aA rfl rfl ?_;refine TL.on rfl rfl rfl rfl (beq_eq_false_iff_ne.2 c5) ?_;refine TL.op1 (OpR.indexS hx3 rfl rfl rfl rfl) rfl ?_;refine TL.on rfl rfl rfl rfl (beq_eq_false_iff_ne.2 c5) ?_;refine aA rfl rfl ?_;refine TL.op1 (OpR.pickF rfl (beq_eq_false_iff_ne.2 c5) rfl) rfl ?_;refine aA rfl rfl ?_;refine TL.nil ?_;obtain rfl:=osi ht1;exact⟨_,Gst.only [4] rfl,rfl⟩
noncomputable def ref05_till.l1 (a0:List UInt8) (s2:Int):Option (Lp Int Int):=
 bnd (ref05_mark a0 s2) fun x10=>
 if x10=true then
 some (Lp.done s2)
else
 some (Lp.next (w64 (s2+1)))
noncomputable def ref05_till (a0:List UInt8) (a1:Int):Option Int:=
 bnd (loop (ref05_till.l1 a0) a1:Option Int) fun t1=>
 some t1
theorem ref05_till_c {a0:List UInt8} {a1:Int} {res:Int} (h0:ref05_till a0 a1=some res):CallF X 256 [.val (.string (bs a0)),dN a1] [] (fun x=>(dN res)) (fun x=>[]):=by
 unfold ref05_till at h0;refine CallF.mkG (X:=X) rfl Tryz.func256 rfl rfl Tryz.ntmps256 rfl rfl ?_;refine aS ?_;refine aA rfl rfl ?_;refine aN rfl ?_;refine T.seq ?_;obtain⟨t1,ht1,h0⟩:=bS h0;refine T.cutC (fun S'=>S'=⟨[(4,(dN 0)),(1,(dN t1))],[],12⟩) (fun _ h=>h) ?_ ?_;rotate_left
 ·rintro _ rfl;show T X _ _ _;refine aS ?_;iterate 2 refine aA rfl rfl ?_
  refine aN rfl ?_;refine T.ret ?_;obtain rfl:=osi h0;exact rO [] [4] rfl undef (cT rfl ResL.nil) rfl rfl rfl rfl
 refine T.block ?_;obtain⟨n3,n8⟩:=loop_some ht1;refine T.loop (fun n S'=>∃ S'',Gst S' S''∧∃ s2:Int,S''=⟨[(4,(dN 0)),(1,(dN s2)),(0,.val (.string (bs a0)))],[],12⟩∧iter (ref05_till.l1 a0) n s2=some t1) n3 ?_ ?_
 ·exact⟨_,Gst.only [0,1,4] rfl,a1,rfl,n8⟩
 rintro n3 _ ⟨_,g,s2,rfl,i7⟩;refine T.ghost g ?_;obtain⟨m4,q5,rfl,q6,i7⟩:=iter_succ i7;unfold ref05_till.l1 at q6;refine T.seq ?_;refine aS ?_;iterate 2 refine aA rfl rfl ?_
 obtain⟨x10,hx10,q6⟩:=bS q6;refine TL.op1 (OpR.call0 fn272 (ref05_mark_c hx10) rfl) rfl ?_;refine aA rfl rfl ?_;refine aN rfl ?_;rcases ite_some q6 with ⟨c11,q6⟩|⟨c11,q6⟩
 ·refine T.condF rfl (not_t (c11)) ?_;refine T.exit ?_;obtain rfl:=osi q6;obtain rfl:_=_:=i7;exact⟨_,Gst.only [1,4] rfl,rfl⟩
 refine T.condT rfl (not_f (eq_false_of_ne_true c11)) ?_;refine aK rfl ?_;refine T.block ?_;refine T.region ?_;iterate 3 refine aA rfl rfl ?_
 refine TL.nil ?_;obtain rfl:=osi q6;exact⟨m4,Nat.lt_succ_self _,_,Gst.only [0,1,4] rfl,w64 (s2+1),rfl,i7⟩
noncomputable def ref05_places_2.l1 (a1:Int) (s4:Int × (List Int)):Option (Lp (Int × (List Int)) (List Int)):=
 if s4.1<a1 then
 bnd (app 8 s4.2 [s4.1]) fun x13=>
 some (Lp.next (w64 (s4.1+1),x13))
else
 some (Lp.done s4.2)
noncomputable def ref05_places_2 (a0:Int) (a1:Int) (a2:List Int):Option (List Int):=
 bnd (loop (ref05_places_2.l1 a1) (a0,a2):Option (List Int)) fun t1=>
 some t1
theorem ref05_places_2_c {a0:Int} {a1:Int} {a2:List Int} {v0:Value} {res:(List Int)} (h0:ref05_places_2 a0 a1 a2=some res):CallF X 257 [.val v0,dN a0,dN a1] [.row v0 (List.map (eI .i64) a2) 1 3] (fun x=>.val (vn x 0)) (fun x=>[.row (vn x 0) (List.map (eI .i64) res) 1 3]):=by
 unfold ref05_places_2 at h0;refine CallF.mkG (X:=X) rfl Tryz.func257 rfl rfl Tryz.ntmps257 rfl rfl ?_;refine aS ?_;refine aA rfl rfl ?_;refine aN rfl ?_;refine T.seq ?_;refine aS ?_;iterate 2 refine aA rfl rfl ?_
 refine aN rfl ?_;obtain⟨t1,ht1,h0⟩:=bS h0;refine T.cutC (fun S'=>∃ y2:Value,S'=⟨[(6,.val (.slice none 0 0)),(0,.val y2)],[.row y2 (List.map (eI .i64) t1) 1 3],19⟩) (fun _ h=>h) ?_ ?_;rotate_left
 ·rintro _ ⟨y2,rfl⟩;show T X _ _ _;refine aS ?_;iterate 2 refine aA rfl rfl ?_
  refine aN rfl ?_;refine T.ret ?_;obtain rfl:=osi h0;exact rO [0] [6] rfl (.tuple #[y2]) (cT rfl ResL.nil) rfl rfl rfl rfl
 refine T.block ?_;obtain⟨n5,n10⟩:=loop_some ht1;refine T.loop (fun n S'=>∃ S'',Gst S' S''∧∃ y3:Value,∃ s4:Int × (List Int),S''=⟨[(7,(dN s4.1)),(6,.val (.slice none 0 0)),(2,(dN a1)),(0,.val y3)],[.row y3 (List.map (eI .i64) s4.2) 1 3],19⟩∧iter (ref05_places_2.l1 a1) n s4=some t1) n5 ?_ ?_
 ·exact⟨_,Gst.only [0,2,6,7] rfl,v0,(a0,a2),rfl,n10⟩
 rintro n5 _ ⟨_,g,y3,s4,rfl,i9⟩;refine T.ghost g ?_;obtain⟨m6,q7,rfl,q8,i9⟩:=iter_succ i9;unfold ref05_places_2.l1 at q8;refine T.seq ?_;refine aS ?_;iterate 3 refine aA rfl rfl ?_
 refine aN rfl ?_;rcases ite_some q8 with ⟨c12,q8⟩|⟨c12,q8⟩;rotate_left
 ·refine T.condF rfl (eF c12) ?_;refine T.exit ?_;obtain rfl:=osi q8;obtain rfl:_=_:=i9;exact⟨_,Gst.only [0,6] rfl,y3,rfl⟩
 refine T.condT rfl (eT c12) ?_;refine aK rfl ?_;refine T.seq ?_;refine T.block ?_;refine T.region ?_;iterate 2 refine aA rfl rfl ?_
 refine TL.op1 (OpR.lit rfl rfl rfl rfl rfl rfl rfl) rfl ?_;obtain⟨x13,hx13,q8⟩:=bS q8;refine TL.op (OpR.appendM (m:=[s4.1]) (eI .i64) 0 hx13 rfl rfl rfl rfl rfl rfl rfl rfl rfl (fun _=>rfl)) rfl (fun v14=>?_);refine aA rfl rfl ?_;refine aN rfl ?_;refine T.region ?_;iterate 3 refine aA rfl rfl ?_
 refine TL.nil ?_;obtain rfl:=osi q8;exact⟨m6,Nat.lt_succ_self _,_,Gst.only [0,2,6,7] rfl,v14,(w64 (s4.1+1),x13),rfl,i9⟩
noncomputable def ref05_places.l1 (a1:Int) (s4:Int × (List Int)):Option (Lp (Int × (List Int)) (List Int)):=
 if s4.1<a1 then
 bnd (app 8 s4.2 [s4.1]) fun x13=>
 some (Lp.next (w64 (s4.1+1),x13))
else
 some (Lp.done s4.2)
noncomputable def ref05_places (a0:Int) (a1:Int):Option (List Int):=
 bnd (loop (ref05_places.l1 a1) (a0,[]):Option (List Int)) fun t1=>
 some t1
theorem ref05_places_c {a0:Int} {a1:Int} {res:(List Int)} (h0:ref05_places a0 a1=some res):CallF X 257 [.val (.slice none 0 0),dN a0,dN a1] [] (fun x=>.sl 1 (List.map (eI .i64) res)) (fun x=>[]):=by
 unfold ref05_places at h0;refine CallF.mkG (X:=X) rfl Tryz.func257 rfl rfl Tryz.ntmps257 rfl rfl ?_;refine aS ?_;refine aA rfl rfl ?_;refine aN rfl ?_;refine T.seq ?_;refine aS ?_;iterate 2 refine aA rfl rfl ?_
 refine aN rfl ?_;obtain⟨t1,ht1,h0⟩:=bS h0;refine T.cutC (fun S'=>∃ y2:Value,S'=⟨[(6,.val (.slice none 0 0)),(0,.val y2)],[.row y2 (List.map (eI .i64) t1) 1 3],19⟩) (fun _ h=>h) ?_ ?_;rotate_left
 ·rintro _ ⟨y2,rfl⟩;show T X _ _ _;refine aS ?_;iterate 2 refine aA rfl rfl ?_
  refine aN rfl ?_;refine T.ret ?_;obtain rfl:=osi h0;exact PostG.retP (ks:=[]) (Gst.trans (Gst.only [6] rfl) (Gst.trans (Gst.freezeRow 0 rfl rfl (ReS.cons (Re.base .all) ReS.nil) (ReO.same ReO.nil)) (Gst.pick [] rfl rfl))) undef (cT rfl ResL.nil) rfl rfl rfl rfl
 refine T.block ?_;obtain⟨n5,n10⟩:=loop_some ht1;refine T.loop (fun n S'=>∃ S'',Gst S' S''∧∃ y3:Value,∃ s4:Int × (List Int),S''=⟨[(7,(dN s4.1)),(6,.val (.slice none 0 0)),(2,(dN a1)),(0,.val y3)],[.row y3 (List.map (eI .i64) s4.2) 1 3],19⟩∧iter (ref05_places.l1 a1) n s4=some t1) n5 ?_ ?_
 ·exact⟨_,Gst.trans (Gst.only [0,2,6,7] rfl) (Gst.nilRow (ow:=[]) 1 3 rfl),(.slice none 0 0),(a0,[]),rfl,n10⟩
 rintro n5 _ ⟨_,g,y3,s4,rfl,i9⟩;refine T.ghost g ?_;obtain⟨m6,q7,rfl,q8,i9⟩:=iter_succ i9;unfold ref05_places.l1 at q8;refine T.seq ?_;refine aS ?_;iterate 3 refine aA rfl rfl ?_
 refine aN rfl ?_;rcases ite_some q8 with ⟨c12,q8⟩|⟨c12,q8⟩;rotate_left
 ·refine T.condF rfl (eF c12) ?_;refine T.exit ?_;obtain rfl:=osi q8;obtain rfl:_=_:=i9;exact⟨_,Gst.only [0,6] rfl,y3,rfl⟩
 refine T.condT rfl (eT c12) ?_;refine aK rfl ?_;refine T.seq ?_;refine T.block ?_;refine T.region ?_;iterate 2 refine aA rfl rfl ?_
 refine TL.op1 (OpR.lit rfl rfl rfl rfl rfl rfl rfl) rfl ?_;obtain⟨x13,hx13,q8⟩:=bS q8;refine TL.op (OpR.appendM (m:=[s4.1]) (eI .i64) 0 hx13 rfl rfl rfl rfl rfl rfl rfl rfl rfl (fun _=>rfl)) rfl (fun v14=>?_);refine aA rfl rfl ?_;refine aN rfl ?_;refine T.region ?_;iterate 3 refine aA rfl rfl ?_
 refine TL.nil ?_;obtain rfl:=osi q8;exact⟨m6,Nat.lt_succ_self _,_,Gst.only [0,2,6,7] rfl,v14,(w64 (s4.1+1),x13),rfl,i9⟩
noncomputable def ref05_field.l1 (a0:List UInt8) (s8:Int × (List Int)):Option (Lp (Int × (List Int)) (Int × (List Int))):=
 bnd (if s8.1<(a0.length:Int) then
 bnd (ref05_quote a0 s8.1) fun x18=>
 if x18=true then
 bnd (ref05_quote a0 (w64 (s8.1+1))) fun x20=>
 some x20
else
 some true
else
 some false:Option Bool) fun t16=>
 if t16=true then
 bnd (app 8 s8.2 [s8.1]) fun x22=>
 bnd (ref05_quote a0 s8.1) fun x24=>
 bnd (if x24=true then
 some (w64 (s8.1+1))
else
 some s8.1:Option Int) fun t25=>
 some (Lp.next (w64 (t25+1),x22))
else
 some (Lp.done (s8.1,s8.2))
noncomputable def ref05_field.l2 (a0:List UInt8) (x33:Int) (s36:Int × Int):Option (Lp (Int × Int) Int):=
 if s36.1<x33 then
 bnd (ref05_quote a0 s36.1) fun x45=>
 bnd (if x45=true then
 some 2
else
 some s36.2:Option Int) fun t46=>
 some (Lp.next (w64 (s36.1+1),t46))
else
 some (Lp.done s36.2)
noncomputable def ref05_field (a0:List UInt8) (a1:Int):Option ref05_Field:=
 bnd (ref05_quote a0 a1) fun x3=>
 if x3=true then
 bnd (loop (ref05_field.l1 a0) (w64 (a1+1),[]):Option (Int × (List Int))) fun t5=>
 if t5.1≥(a0.length:Int) then
 some (⟨(⟨a1,w64 ((a0.length:Int)-a1)⟩:ref03_Span),4,t5.2⟩:ref05_Field)
else
 bnd (ref05_till a0 (w64 (t5.1+1))) fun x28=>
 bnd (if x28>(w64 (t5.1+1)) then
 some 3
else
 some 1:Option Int) fun t29=>
 bnd (ref05_places_2 (w64 (t5.1+1)) x28 t5.2) fun x31=>
 some (⟨(⟨a1,w64 (x28-a1)⟩:ref03_Span),t29,x31⟩:ref05_Field)
else
 bnd (ref05_till a0 a1) fun x33=>
 bnd (ref05_places a1 x33) fun x34=>
 bnd (loop (ref05_field.l2 a0 x33) (a1,0):Option Int) fun t35=>
 some (⟨(⟨a1,w64 (x33-a1)⟩:ref03_Span),t35,x34⟩:ref05_Field)
theorem ref05_field_c {a0:List UInt8} {a1:Int} {res:ref05_Field} (h0:ref05_field a0 a1=some res):CallF X 229 [.val (.string (bs a0)),dN a1] [] (fun x=>.agg [dN res.fRaw.fAt,dN res.fRaw.fN,dN res.fKind,.sl 1 (List.map (eI .i64) res.fBytes)]) (fun x=>[]):=by
 unfold ref05_field at h0;refine CallF.mkG (X:=X) rfl Tryz.func229 rfl rfl Tryz.ntmps229 rfl rfl ?_;refine aS ?_;refine TL.op (OpR.alloc rfl rfl (fun _=>rfl)) rfl (fun p1=>?_);refine aN rfl ?_;refine aS ?_;refine TL.op1 (OpR.build rfl rfl rfl rfl rfl) rfl ?_;refine TL.op (OpR.alloc rfl rfl (fun _=>rfl)) rfl (fun p2=>?_);refine TL.op0 (OpR.store 1 rfl rfl rfl rfl rfl rfl rfl rfl) ?_;refine aN rfl ?_;refine T.seq ?_;refine aS ?_;iterate 2 refine aA rfl rfl ?_
 obtain⟨x3,hx3,h0⟩:=bS h0;refine TL.op1 (OpR.call0 fn255 (ref05_quote_c hx3) rfl) rfl ?_;refine aA rfl rfl ?_;refine aN rfl ?_;rcases ite_some h0 with ⟨c4,h0⟩|⟨c4,h0⟩;rotate_left
 ·refine T.condT rfl (not_f (eq_false_of_ne_true c4)) ?_;refine aS ?_;iterate 2 refine aA rfl rfl ?_
  obtain⟨x33,hx33,h0⟩:=bS h0;refine TL.op1 (OpR.call0 fn256 (ref05_till_c hx33) rfl) rfl ?_;refine aA rfl rfl ?_;refine aN rfl ?_;refine aS ?_;iterate 4 refine aA rfl rfl ?_
  refine TL.op1 (OpR.build rfl rfl rfl rfl rfl) rfl ?_;refine aA rfl rfl ?_;refine TL.op0 (OpR.store 1 rfl rfl rfl rfl rfl rfl rfl rfl) ?_;refine aN rfl ?_;refine aS ?_;iterate 2 refine aA rfl rfl ?_
  obtain⟨x34,hx34,h0⟩:=bS h0;refine TL.op1 (OpR.call0 fn257 (ref05_places_c hx34) rfl) rfl ?_;refine aA rfl rfl ?_;refine TL.op0 (OpR.store 1 rfl rfl rfl rfl rfl rfl rfl rfl) ?_;refine aN rfl ?_;refine T.seq ?_;refine aS ?_;iterate 2 refine aA rfl rfl ?_
  refine aN rfl ?_;obtain⟨t35,ht35,h0⟩:=bS h0;refine T.cutC (fun S'=>S'=⟨[(5,(dP (blk p2))),(4,(dP (blk p1))),(1,(dN a1)),(0,.val (.string (bs a0)))],[.var (blk p1) [dN 0,dN 0,dN 0,.val (.slice none 0 0)] 276,.var (blk p2) [dN a1,dN (w64 (x33-a1)),dN t35,.sl 1 (List.map (eI .i64) x34)] 276],107⟩) (fun _ h=>h) ?_ ?_;rotate_left
  ·rintro _ rfl;show T X _ _ _;refine aS ?_;refine TL.op1 (OpR.loadPtr 1 rfl rfl rfl rfl) rfl ?_;refine TL.op0 (OpR.store 0 rfl rfl rfl rfl rfl rfl rfl rfl) ?_;refine aN rfl ?_;refine T.ret ?_;obtain rfl:=osi h0;exact rP [] [4] [0] rfl rfl rfl undef (cV 0 rfl rfl rfl rfl ResL.nil) rfl rfl rfl rfl
  refine T.block ?_;obtain⟨n37,n42⟩:=loop_some ht35;refine T.loop (fun n S'=>∃ S'',Gst S' S''∧∃ s36:Int × Int,S''=⟨[(7,(dN s36.1)),(6,(dN x33)),(5,(dP (blk p2))),(4,(dP (blk p1))),(1,(dN a1)),(0,.val (.string (bs a0)))],[.var (blk p1) [dN 0,dN 0,dN 0,.val (.slice none 0 0)] 276,.var (blk p2) [dN a1,dN (w64 (x33-a1)),dN s36.2,.sl 1 (List.map (eI .i64) x34)] 276],107⟩∧iter (ref05_field.l2 a0 x33) n s36=some t35) n37 ?_ ?_
  ·exact⟨_,Gst.only [0,1,4,5,6,7] rfl,(a1,0),rfl,n42⟩
  rintro n37 _ ⟨_,g,s36,rfl,i41⟩;refine T.ghost g ?_;obtain⟨m38,q39,rfl,q40,i41⟩:=iter_succ i41;unfold ref05_field.l2 at q40;refine T.seq ?_;refine aS ?_;iterate 3 refine aA rfl rfl ?_
  refine aN rfl ?_;rcases ite_some q40 with ⟨c44,q40⟩|⟨c44,q40⟩;rotate_left
  ·refine T.condF rfl (eF c44) ?_;refine T.exit ?_;obtain rfl:=osi q40;obtain rfl:_=_:=i41;exact⟨_,Gst.only [0,1,4,5] rfl,rfl⟩
  refine T.condT rfl (eT c44) ?_;refine aK rfl ?_;refine T.seq ?_;refine T.block ?_;refine aS ?_;iterate 2 refine aA rfl rfl ?_
  obtain⟨x45,hx45,q40⟩:=bS q40;refine TL.op1 (OpR.call0 fn255 (ref05_quote_c hx45) rfl) rfl ?_;refine aN rfl ?_;obtain⟨t46,ht46,q40⟩:=bS q40;refine T.cutC (fun S'=>S'=⟨[(7,(dN s36.1)),(6,(dN x33)),(5,(dP (blk p2))),(4,(dP (blk p1))),(1,(dN a1)),(0,.val (.string (bs a0)))],[.var (blk p1) [dN 0,dN 0,dN 0,.val (.slice none 0 0)] 276,.var (blk p2) [dN a1,dN (w64 (x33-a1)),dN t46,.sl 1 (List.map (eI .i64) x34)] 276],107⟩) (fun _ h=>h) ?_ ?_;rotate_left
  ·rintro _ rfl;show T X _ _ _;refine T.region ?_;iterate 3 refine aA rfl rfl ?_
   refine TL.nil ?_;obtain rfl:=osi q40;exact⟨m38,Nat.lt_succ_self _,_,Gst.only [0,1,4,5,6,7] rfl,(w64 (s36.1+1),t46),rfl,i41⟩
  rcases ite_some ht46 with ⟨c47,ht46⟩|⟨c47,ht46⟩;rotate_left
  ·refine T.condF rfl (eq_false_of_ne_true c47) ?_;refine T.skip ?_;obtain rfl:=osi ht46;exact⟨_,Gst.only [0,1,4,5,6,7] rfl,rfl⟩
  refine T.condT rfl (c47) ?_;refine T.region ?_;refine aA rfl rfl ?_;refine TL.op0 (OpR.store 1 rfl rfl rfl rfl rfl rfl rfl rfl) ?_;refine TL.nil ?_;obtain rfl:=osi ht46;exact⟨_,Gst.only [0,1,4,5,6,7] rfl,rfl⟩
 refine T.condF rfl (not_t (c4)) ?_;refine aK rfl ?_;refine aS ?_;iterate 3 refine aA rfl rfl ?_
 refine aN rfl ?_;refine T.seq ?_;obtain⟨t5,ht5,h0⟩:=bS h0;refine T.cutC (fun S'=>∃ y6:Value,S'=⟨[(8,(dN t5.1)),(5,(dP (blk p2))),(4,(dP (blk p1))),(1,(dN a1)),(0,.val (.string (bs a0)))],[.var (blk p1) [dN 0,dN 0,dN 0,.val (.slice none 0 0)] 276,.var (blk p2) [dN 0,dN 0,dN 0,.val y6] 276,.row y6 (List.map (eI .i64) t5.2) 1 3],107⟩) (fun _ h=>h) ?_ ?_;rotate_left
 ·rintro _ ⟨y6,rfl⟩;show T X _ _ _;refine T.seq ?_;refine aS ?_;iterate 2 refine aA rfl rfl ?_
  refine TL.op1 (OpR.cast (OpR.pure rfl) (intE (lenS _))) rfl ?_;refine aA rfl rfl ?_;refine aN rfl ?_;rcases ite_some h0 with ⟨c27,h0⟩|⟨c27,h0⟩
  ·refine T.condT rfl (eT c27) ?_;refine aS ?_;refine aA rfl rfl ?_;refine TL.op0 (OpR.store 1 rfl rfl rfl rfl rfl rfl rfl rfl) ?_;refine aN rfl ?_;refine aS ?_;iterate 2 refine aA rfl rfl ?_
   refine TL.op1 (OpR.cast (OpR.pure rfl) (intE (lenS _))) rfl ?_;iterate 2 refine aA rfl rfl ?_
   refine TL.op1 (OpR.build rfl rfl rfl rfl rfl) rfl ?_;refine aA rfl rfl ?_;refine TL.op0 (OpR.store 1 rfl rfl rfl rfl rfl rfl rfl rfl) ?_;refine aN rfl ?_;refine aS ?_;refine TL.op1 (OpR.loadPtr 1 rfl rfl rfl rfl) rfl ?_;refine TL.op0 (OpR.store 0 rfl rfl rfl rfl rfl rfl rfl rfl) ?_;refine aN rfl ?_;refine T.ret ?_;obtain rfl:=osi h0;exact PostG.retP (ks:=[]) (Gst.trans (Gst.only [4] rfl) (Gst.trans (Gst.freezeRow 2 rfl rfl (ReS.cons Re.refl ReS.nil) (ReO.var (ReL.cons Re.refl (ReL.cons Re.refl (ReL.cons Re.refl (ReL.cons (Re.base .all) ReL.nil)))) (ReO.var (ReL.cons Re.refl (ReL.cons Re.refl (ReL.cons Re.refl (ReL.cons (Re.base .all) ReL.nil)))) (ReO.same ReO.nil)))) (Gst.pick [0] rfl rfl))) undef (cV 0 rfl rfl rfl rfl ResL.nil) rfl rfl rfl rfl
  refine T.condF rfl (eF c27) ?_;refine aK rfl ?_;refine aS ?_;iterate 3 refine aA rfl rfl ?_
  obtain⟨x28,hx28,h0⟩:=bS h0;refine TL.op1 (OpR.call0 fn256 (ref05_till_c hx28) rfl) rfl ?_;refine aA rfl rfl ?_;refine aN rfl ?_;refine aS ?_;refine aA rfl rfl ?_;refine TL.op0 (OpR.store 1 rfl rfl rfl rfl rfl rfl rfl rfl) ?_;refine aN rfl ?_;refine T.seq ?_;refine aS ?_;iterate 4 refine aA rfl rfl ?_
  refine aN rfl ?_;obtain⟨t29,ht29,h0⟩:=bS h0;refine T.cutC (fun S'=>S'=⟨[(9,(dN x28)),(8,(dN t5.1)),(5,(dP (blk p2))),(4,(dP (blk p1))),(1,(dN a1))],[.var (blk p1) [dN 0,dN 0,dN 0,.val (.slice none 0 0)] 276,.var (blk p2) [dN 0,dN 0,dN t29,.val y6] 276,.row y6 (List.map (eI .i64) t5.2) 1 3],107⟩) (fun _ h=>h) ?_ ?_
  ·rcases ite_some ht29 with ⟨c30,ht29⟩|⟨c30,ht29⟩;rotate_left
   ·refine T.condF rfl (eF c30) ?_;refine T.skip ?_;obtain rfl:=osi ht29;exact⟨_,Gst.only [1,4,5,8,9] rfl,rfl⟩
   refine T.condT rfl (eT c30) ?_;refine T.region ?_;refine aA rfl rfl ?_;refine TL.op0 (OpR.store 1 rfl rfl rfl rfl rfl rfl rfl rfl) ?_;refine TL.nil ?_;obtain rfl:=osi ht29;exact⟨_,Gst.only [1,4,5,8,9] rfl,rfl⟩
  rintro _ rfl;show T X _ _ _;refine aS ?_;refine aA rfl rfl ?_;refine TL.op1 (OpR.loadPtr 1 rfl rfl rfl rfl) rfl ?_;iterate 3 refine aA rfl rfl ?_
  obtain⟨x31,hx31,h0⟩:=bS h0;refine TL.op (OpR.call [2] fn257 (ref05_places_2_c hx31) rfl rfl rfl (fun _=>rfl)) rfl (fun w32=>?_);refine aA rfl rfl ?_;refine TL.op0 (OpR.store 1 rfl rfl rfl rfl rfl rfl rfl rfl) ?_;refine aN rfl ?_;refine aS ?_;iterate 4 refine aA rfl rfl ?_
  refine TL.op1 (OpR.build rfl rfl rfl rfl rfl) rfl ?_;refine aA rfl rfl ?_;refine TL.op0 (OpR.store 1 rfl rfl rfl rfl rfl rfl rfl rfl) ?_;refine aN rfl ?_;refine aS ?_;refine TL.op1 (OpR.loadPtr 1 rfl rfl rfl rfl) rfl ?_;refine TL.op0 (OpR.store 0 rfl rfl rfl rfl rfl rfl rfl rfl) ?_;refine aN rfl ?_;refine T.ret ?_;obtain rfl:=osi h0;exact PostG.retP (ks:=[]) (Gst.trans (Gst.only [4] rfl) (Gst.trans (Gst.freezeRow 2 rfl rfl (ReS.cons Re.refl ReS.nil) (ReO.var (ReL.cons Re.refl (ReL.cons Re.refl (ReL.cons Re.refl (ReL.cons (Re.base .all) ReL.nil)))) (ReO.var (ReL.cons Re.refl (ReL.cons Re.refl (ReL.cons Re.refl (ReL.cons (Re.base .all) ReL.nil)))) (ReO.same ReO.nil)))) (Gst.pick [0] rfl rfl))) undef (cV 0 rfl rfl rfl rfl ResL.nil) rfl rfl rfl rfl
 refine T.block ?_;obtain⟨n9,n14⟩:=loop_some ht5;refine T.loop (fun n S'=>∃ S'',Gst S' S''∧∃ y7:Value,∃ s8:Int × (List Int),S''=⟨[(8,(dN s8.1)),(5,(dP (blk p2))),(4,(dP (blk p1))),(1,(dN a1)),(0,.val (.string (bs a0)))],[.var (blk p1) [dN 0,dN 0,dN 0,.val (.slice none 0 0)] 276,.var (blk p2) [dN 0,dN 0,dN 0,.val y7] 276,.row y7 (List.map (eI .i64) s8.2) 1 3],107⟩∧iter (ref05_field.l1 a0) n s8=some t5) n9 ?_ ?_
 ·exact⟨_,Gst.trans (Gst.only [0,1,4,5,8] rfl) (Gst.nilRow (ow:=[.var (blk p1) [dN 0,dN 0,dN 0,.val (.slice none 0 0)] 276,.var (blk p2) [dN 0,dN 0,dN 0,.val (.slice none 0 0)] 276]) 1 3 rfl),(.slice none 0 0),(w64 (a1+1),[]),rfl,n14⟩
 rintro n9 _ ⟨_,g,y7,s8,rfl,i13⟩;refine T.ghost g ?_;obtain⟨m10,q11,rfl,q12,i13⟩:=iter_succ i13;unfold ref05_field.l1 at q12;refine T.seq ?_;refine T.seq ?_;obtain⟨t16,ht16,q12⟩:=bS q12;refine T.cutC (fun S'=>S'=⟨[(56,(dT t16)),(8,(dN s8.1)),(5,(dP (blk p2))),(4,(dP (blk p1))),(1,(dN a1)),(0,.val (.string (bs a0)))],[.var (blk p1) [dN 0,dN 0,dN 0,.val (.slice none 0 0)] 276,.var (blk p2) [dN 0,dN 0,dN 0,.val y7] 276,.row y7 (List.map (eI .i64) s8.2) 1 3],107⟩) (fun _ h=>h) ?_ ?_;rotate_left
 ·rintro _ rfl;show T X _ _ _;rcases ite_some q12 with ⟨c21,q12⟩|⟨c21,q12⟩;rotate_left
  ·refine T.condF rfl (eq_false_of_ne_true c21) ?_;refine T.exit ?_;obtain rfl:=osi q12;obtain rfl:_=_:=i13;exact⟨_,Gst.only [0,1,4,5,8] rfl,y7,rfl⟩
  refine T.condT rfl (c21) ?_;refine aK rfl ?_;refine T.block ?_;refine aS ?_;refine aA rfl rfl ?_;refine TL.op1 (OpR.loadPtr 1 rfl rfl rfl rfl) rfl ?_;refine aA rfl rfl ?_;refine TL.op1 (OpR.lit rfl rfl rfl rfl rfl rfl rfl) rfl ?_;obtain⟨x22,hx22,q12⟩:=bS q12;refine TL.op (OpR.appendM (m:=[s8.1]) (eI .i64) 2 hx22 rfl rfl rfl rfl rfl rfl rfl rfl rfl (fun _=>rfl)) rfl (fun v23=>?_);refine aA rfl rfl ?_;refine TL.op0 (OpR.store 1 rfl rfl rfl rfl rfl rfl rfl rfl) ?_;refine aN rfl ?_;refine T.seq ?_;refine aS ?_;iterate 2 refine aA rfl rfl ?_
  obtain⟨x24,hx24,q12⟩:=bS q12;refine TL.op1 (OpR.call0 fn255 (ref05_quote_c hx24) rfl) rfl ?_;refine aN rfl ?_;obtain⟨t25,ht25,q12⟩:=bS q12;refine T.cutC (fun S'=>S'=⟨[(8,(dN t25)),(5,(dP (blk p2))),(4,(dP (blk p1))),(1,(dN a1)),(0,.val (.string (bs a0)))],[.var (blk p1) [dN 0,dN 0,dN 0,.val (.slice none 0 0)] 276,.var (blk p2) [dN 0,dN 0,dN 0,.val v23] 276,.row v23 (List.map (eI .i64) x22) 1 3],107⟩) (fun _ h=>h) ?_ ?_;rotate_left
  ·rintro _ rfl;show T X _ _ _;refine T.region ?_;iterate 3 refine aA rfl rfl ?_
   refine TL.nil ?_;obtain rfl:=osi q12;exact⟨m10,Nat.lt_succ_self _,_,Gst.only [0,1,4,5,8] rfl,v23,(w64 (t25+1),x22),rfl,i13⟩
  rcases ite_some ht25 with ⟨c26,ht25⟩|⟨c26,ht25⟩;rotate_left
  ·refine T.condF rfl (eq_false_of_ne_true c26) ?_;refine T.skip ?_;obtain rfl:=osi ht25;exact⟨_,Gst.only [0,1,4,5,8] rfl,rfl⟩
  refine T.condT rfl (c26) ?_;refine T.region ?_;iterate 3 refine aA rfl rfl ?_
  refine TL.nil ?_;obtain rfl:=osi ht25;exact⟨_,Gst.only [0,1,4,5,8] rfl,rfl⟩
 refine T.region ?_;iterate 2 refine aA rfl rfl ?_
 refine TL.op1 (OpR.cast (OpR.pure rfl) (intE (lenS _))) rfl ?_;iterate 2 refine aA rfl rfl ?_
 rcases ite_some ht16 with ⟨c17,ht16⟩|⟨c17,ht16⟩;rotate_left
 ·refine TL.off rfl rfl rfl rfl (eF c17) rfl rfl ?_;refine TL.off rfl rfl rfl rfl (eF c17) rfl rfl ?_;refine TL.off rfl rfl rfl rfl (eF c17) rfl rfl ?_;refine TL.off rfl rfl rfl rfl (eF c17) rfl rfl ?_;refine TL.off rfl rfl rfl rfl (eF c17) rfl rfl ?_;refine TL.offU rfl rfl rfl rfl rfl rfl ?_;refine TL.offU rfl rfl rfl rfl rfl rfl ?_;refine TL.offU rfl rfl rfl rfl rfl rfl ?_;refine TL.offU rfl rfl rfl rfl rfl rfl ?_;refine TL.off rfl rfl rfl rfl (eF c17) rfl rfl ?_;refine TL.op1 (OpR.pickF rfl (eF c17) rfl) rfl ?_;refine TL.nil ?_;obtain rfl:=osi ht16;exact⟨_,Gst.only [0,1,4,5,8,56] rfl,rfl⟩
 refine TL.on rfl rfl rfl rfl (eT c17) ?_;refine aA rfl rfl ?_;refine TL.on rfl rfl rfl rfl (eT c17) ?_;refine aA rfl rfl ?_;refine TL.on rfl rfl rfl rfl (eT c17) ?_;obtain⟨x18,hx18,ht16⟩:=bS ht16;refine TL.op1 (OpR.call0 fn255 (ref05_quote_c hx18) rfl) rfl ?_;refine TL.on rfl rfl rfl rfl (eT c17) ?_;refine aA rfl rfl ?_;refine TL.on rfl rfl rfl rfl (eT c17) ?_;refine aA rfl rfl ?_;rcases ite_some ht16 with ⟨c19,ht16⟩|⟨c19,ht16⟩;rotate_left
 ·refine TL.off rfl rfl rfl rfl (not_f (eq_false_of_ne_true c19)) rfl rfl ?_;refine TL.off rfl rfl rfl rfl (not_f (eq_false_of_ne_true c19)) rfl rfl ?_;refine TL.off rfl rfl rfl rfl (not_f (eq_false_of_ne_true c19)) rfl rfl ?_;refine TL.off rfl rfl rfl rfl (not_f (eq_false_of_ne_true c19)) rfl rfl ?_;refine TL.on rfl rfl rfl rfl (eT c17) ?_;refine TL.op1 (OpR.pickT rfl (not_f (eq_false_of_ne_true c19)) rfl) rfl ?_;refine TL.op1 (OpR.pickT rfl (eT c17) rfl) rfl ?_;refine TL.nil ?_;obtain rfl:=osi ht16;exact⟨_,Gst.only [0,1,4,5,8,56] rfl,rfl⟩
 refine TL.on rfl rfl rfl rfl (not_t (c19)) ?_;refine aA rfl rfl ?_;refine TL.on rfl rfl rfl rfl (not_t (c19)) ?_;refine aA rfl rfl ?_;refine TL.on rfl rfl rfl rfl (not_t (c19)) ?_;refine aA rfl rfl ?_;refine TL.on rfl rfl rfl rfl (not_t (c19)) ?_;obtain⟨x20,hx20,ht16⟩:=bS ht16;refine TL.op1 (OpR.call0 fn255 (ref05_quote_c hx20) rfl) rfl ?_;refine TL.on rfl rfl rfl rfl (eT c17) ?_;refine TL.op1 (OpR.pickF rfl (not_t (c19)) rfl) rfl ?_;refine TL.op1 (OpR.pickT rfl (eT c17) rfl) rfl ?_;refine TL.nil ?_;obtain rfl:=osi ht16;exact⟨_,Gst.only [0,1,4,5,8,56] rfl,rfl⟩
end Go.Proofs.YtpmhiiemklhbhaaGreat.S
