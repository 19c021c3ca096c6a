import Derived.Test.YtpmhiiemklhbhaaGreatG1xb
import Derived.Test.YtpmhiiemklhbhaaGreatG1xa
set_option maxHeartbeats 4000000
set_option linter.unusedVariables false
set_option linter.unusedSimpArgs false
set_option maxRecDepth 20000
namespace Go.Proofs.YtpmhiiemklhbhaaGreat.S
open Go Go.Sm
attribute [local irreducible] T TL OpR CallT iter loop
noncomputable def walk_stack_row_Row_down_2.l1 (a4:Int) (s4:(List NP) × (List row_Row) × Int × Int × (List wFr)) (s14:Int × Int):Option (Lp (Int × Int) (Int × Int)):=
 bnd (if s14.2<(w64 ((s4.1.length:Int)-1)) then
 bnd (idx s4.1 s14.2) fun x24=>
 bnd (o_tNd x24) fun x25=>
 some (decide (a4≥(w64 (s14.1+x25.fN))))
else
 some false:Option Bool) fun t22=>
 if t22=true then
 bnd (idx s4.1 s14.2) fun x27=>
 bnd (o_tNd x27) fun x28=>
 some (Lp.next (w64 (s14.1+x28.fN),w64 (s14.2+1)))
else
 some (Lp.done (s14.1,s14.2))
noncomputable def walk_stack_row_Row_down_2.l2 (a4:Int) (s4:(List NP) × (List row_Row) × Int × Int × (List wFr)):Option (Lp ((List NP) × (List row_Row) × Int × Int × (List wFr)) ((List NP) × (List row_Row) × Int × Int × (List wFr))):=
 if (s4.1.length:Int)>0 then
 bnd (loop (walk_stack_row_Row_down_2.l1 a4 s4) (s4.2.2.2.1,0):Option (Int × Int)) fun t13=>
 bnd (app 24 s4.2.2.2.2 [(⟨(some (c_tNd (⟨s4.1,s4.2.1,s4.2.2.1⟩:tNd))),t13.1,t13.2⟩:wFr)]) fun x29=>
 bnd (idx s4.1 t13.2) fun x31=>
 bnd (o_tNd x31) fun x32=>
 some (Lp.next (x32.fKids,x32.fItems,x32.fN,t13.1,x29))
else
 some (Lp.done (s4.1,s4.2.1,s4.2.2.1,s4.2.2.2.1,s4.2.2.2.2))
noncomputable def walk_stack_row_Row_down_2 (a0:List NP) (a1:List row_Row) (a2:Int) (a3:Int) (a4:Int) (a5:List wFr):Option (List wFr):=
 bnd (loop (walk_stack_row_Row_down_2.l2 a4) (a0,a1,a2,a3,a5):Option ((List NP) × (List row_Row) × Int × Int × (List wFr))) fun t1=>
 bnd (app 24 t1.2.2.2.2 [(⟨(some (c_tNd (⟨t1.1,t1.2.1,t1.2.2.1⟩:tNd))),t1.2.2.2.1,w64 (a4-t1.2.2.2.1)⟩:wFr)]) fun x33=>
 some x33
theorem walk_stack_row_Row_down_2_c {a0:List NP} {a1:List row_Row} {a2:Int} {a3:Int} {a4:Int} {a5:List wFr} {b0:Nat} {v1:Value} {res:(List wFr)} (h0:walk_stack_row_Row_down_2 a0 a1 a2 a3 a4 a5=some res):CallF X 147 [dP b0,.nod [.sl 1 (List.map eNP a0),.sl 3 (List.map e_row_Row a1),dN a2],dN a3,dN a4] [.var b0 [.val v1] 228,.row v1 (List.map e_wFr a5) 3 234] (fun x=>.tup []) (fun x=>[.var b0 [.val (vn x 0)] 228,.row (vn x 0) (List.map e_wFr res) 3 234]):=by
 unfold walk_stack_row_Row_down_2 at h0;refine CallF.mkG (X:=X) rfl Tryz.func147 rfl rfl Tryz.ntmps147 rfl rfl ?_;refine T.seq ?_;obtain⟨t1,ht1,h0⟩:=bS h0;refine T.cutC (fun S'=>∃ y2:Value,S'=⟨[(3,(dN a4)),(2,(dN t1.2.2.2.1)),(1,.nod [.sl 1 (List.map eNP t1.1),.sl 3 (List.map e_row_Row t1.2.1),dN t1.2.2.1]),(0,(dP b0))],[.var b0 [.val y2] 228,.row y2 (List.map e_wFr t1.2.2.2.2) 3 234],88⟩) (fun _ h=>h) ?_ ?_;rotate_left
 ·rintro _ ⟨y2,rfl⟩;show T X _ _ _;refine T.region ?_;iterate 4 refine aA rfl rfl ?_
  refine TL.op1 (OpR.loadPtr 0 rfl rfl rfl rfl) rfl ?_;iterate 5 refine aA rfl rfl ?_
  refine TL.op1 (OpR.build rfl rfl rfl rfl rfl) rfl ?_;refine TL.op1 (OpR.lit rfl rfl rfl rfl rfl rfl rfl) rfl ?_;obtain⟨x33,hx33,h0⟩:=bS h0;refine TL.op (OpR.appendM (m:=[(⟨(some (c_tNd (⟨t1.1,t1.2.1,t1.2.2.1⟩:tNd))),t1.2.2.2.1,w64 (a4-t1.2.2.2.1)⟩:wFr)]) e_wFr 1 hx33 rfl rfl rfl rfl rfl rfl rfl rfl rfl (fun _=>rfl)) rfl (fun v34=>?_);iterate 2 refine aA rfl rfl ?_
  refine TL.op0 (OpR.store 0 rfl rfl rfl rfl rfl rfl rfl rfl) ?_;refine TL.nil ?_;obtain rfl:=osi h0;exact PostG.finP (ks:=[0,1]) (Gst.only [] rfl) (.tuple #[v34]) ResL.nil rfl rfl rfl rfl
 refine T.block ?_;obtain⟨n5,n10⟩:=loop_some ht1;refine T.loop (fun n S'=>∃ S'',Gst S' S''∧∃ y3:Value,∃ s4:(List NP) × (List row_Row) × Int × Int × (List wFr),S''=⟨[(3,(dN a4)),(2,(dN s4.2.2.2.1)),(1,.nod [.sl 1 (List.map eNP s4.1),.sl 3 (List.map e_row_Row s4.2.1),dN s4.2.2.1]),(0,(dP b0))],[.var b0 [.val y3] 228,.row y3 (List.map e_wFr s4.2.2.2.2) 3 234],88⟩∧iter (walk_stack_row_Row_down_2.l2 a4) n s4=some t1) n5 ?_ ?_
 ·exact⟨_,Gst.only [0,1,2,3] rfl,v1,(a0,a1,a2,a3,a5),rfl,n10⟩
 rintro n5 _ ⟨_,g,y3,s4,rfl,i9⟩;refine T.ghost g ?_;obtain⟨m6,q7,rfl,q8,i9⟩:=iter_succ i9;unfold walk_stack_row_Row_down_2.l2 at q8;refine T.seq ?_;refine aS ?_;iterate 4 refine aA rfl rfl ?_
 refine TL.op1 (OpR.cast (OpR.pure rfl) (intE (lenM _ _))) rfl ?_;refine aA rfl rfl ?_;refine aN rfl ?_;rcases ite_some q8 with ⟨c12,q8⟩|⟨c12,q8⟩;rotate_left
 ·refine T.condF rfl (eF c12) ?_;refine T.exit ?_;obtain rfl:=osi q8;obtain rfl:_=_:=i9;exact⟨_,Gst.only [0,1,2,3] rfl,y3,rfl⟩
 refine T.condT rfl (eT c12) ?_;refine aK rfl ?_;refine T.block ?_;refine aS ?_;refine aA rfl rfl ?_;refine aN rfl ?_;refine T.seq ?_;obtain⟨t13,ht13,q8⟩:=bS q8;refine T.cutC (fun S'=>S'=⟨[(8,(dN t13.2)),(3,(dN a4)),(2,(dN t13.1)),(1,.nod [.sl 1 (List.map eNP s4.1),.sl 3 (List.map e_row_Row s4.2.1),dN s4.2.2.1]),(0,(dP b0))],[.var b0 [.val y3] 228,.row y3 (List.map e_wFr s4.2.2.2.2) 3 234],88⟩) (fun _ h=>h) ?_ ?_;rotate_left
 ·rintro _ rfl;show T X _ _ _;refine aS ?_;iterate 4 refine aA rfl rfl ?_
  refine TL.op1 (OpR.loadPtr 0 rfl rfl rfl rfl) rfl ?_;iterate 3 refine aA rfl rfl ?_
  refine TL.op1 (OpR.build rfl rfl rfl rfl rfl) rfl ?_;refine TL.op1 (OpR.lit rfl rfl rfl rfl rfl rfl rfl) rfl ?_;obtain⟨x29,hx29,q8⟩:=bS q8;refine TL.op (OpR.appendM (m:=[(⟨(some (c_tNd (⟨s4.1,s4.2.1,s4.2.2.1⟩:tNd))),t13.1,t13.2⟩:wFr)]) e_wFr 1 hx29 rfl rfl rfl rfl rfl rfl rfl rfl rfl (fun _=>rfl)) rfl (fun v30=>?_);iterate 2 refine aA rfl rfl ?_
  refine TL.op0 (OpR.store 0 rfl rfl rfl rfl rfl rfl rfl rfl) ?_;refine aN rfl ?_;refine T.region ?_;iterate 5 refine aA rfl rfl ?_
  obtain⟨x31,hx31,q8⟩:=bS q8;obtain⟨x32,hx32,q8⟩:=bS q8;rw[o_tNd_eq hx32] at hx31;refine TL.op1 (OpR.indexM eNP hx31 rfl rfl rfl rfl rfl) rfl ?_;iterate 2 refine aA rfl rfl ?_
  refine TL.nil ?_;obtain rfl:=osi q8;exact⟨m6,Nat.lt_succ_self _,_,Gst.only [0,1,2,3] rfl,v30,(x32.fKids,x32.fItems,x32.fN,t13.1,x29),rfl,i9⟩
 refine T.block ?_;obtain⟨n15,n20⟩:=loop_some ht13;refine T.loop (fun n S'=>∃ S'',Gst S' S''∧∃ s14:Int × Int,S''=⟨[(8,(dN s14.2)),(3,(dN a4)),(2,(dN s14.1)),(1,.nod [.sl 1 (List.map eNP s4.1),.sl 3 (List.map e_row_Row s4.2.1),dN s4.2.2.1]),(0,(dP b0))],[.var b0 [.val y3] 228,.row y3 (List.map e_wFr s4.2.2.2.2) 3 234],88⟩∧iter (walk_stack_row_Row_down_2.l1 a4 s4) n s14=some t13) n15 ?_ ?_
 ·exact⟨_,Gst.only [0,1,2,3,8] rfl,(s4.2.2.2.1,0),rfl,n20⟩
 rintro n15 _ ⟨_,g,s14,rfl,i19⟩;refine T.ghost g ?_;obtain⟨m16,q17,rfl,q18,i19⟩:=iter_succ i19;unfold walk_stack_row_Row_down_2.l1 at q18;refine T.seq ?_;refine T.seq ?_;obtain⟨t22,ht22,q18⟩:=bS q18;refine T.cutC (fun S'=>S'=⟨[(38,(dT t22)),(8,(dN s14.2)),(3,(dN a4)),(2,(dN s14.1)),(1,.nod [.sl 1 (List.map eNP s4.1),.sl 3 (List.map e_row_Row s4.2.1),dN s4.2.2.1]),(0,(dP b0))],[.var b0 [.val y3] 228,.row y3 (List.map e_wFr s4.2.2.2.2) 3 234],88⟩) (fun _ h=>h) ?_ ?_;rotate_left
 ·rintro _ rfl;show T X _ _ _;rcases ite_some q18 with ⟨c26,q18⟩|⟨c26,q18⟩;rotate_left
  ·refine T.condF rfl (eq_false_of_ne_true c26) ?_;refine T.exit ?_;obtain rfl:=osi q18;obtain rfl:_=_:=i19;exact⟨_,Gst.only [0,1,2,3,8] rfl,rfl⟩
  refine T.condT rfl (c26) ?_;refine aK rfl ?_;refine T.block ?_;refine aS ?_;iterate 6 refine aA rfl rfl ?_
  obtain⟨x27,hx27,q18⟩:=bS q18;obtain⟨x28,hx28,q18⟩:=bS q18;rw[o_tNd_eq hx28] at hx27;refine TL.op1 (OpR.indexM eNP hx27 rfl rfl rfl rfl rfl) rfl ?_;iterate 6 refine aA rfl rfl ?_
  refine aN rfl ?_;refine T.region ?_;iterate 3 refine aA rfl rfl ?_
  refine TL.nil ?_;obtain rfl:=osi q18;exact⟨m16,Nat.lt_succ_self _,_,Gst.only [0,1,2,3,8] rfl,(w64 (s14.1+x28.fN),w64 (s14.2+1)),rfl,i19⟩
 refine T.region ?_;iterate 5 refine aA rfl rfl ?_
 refine TL.op1 (OpR.cast (OpR.pure rfl) (intE (lenM _ _))) rfl ?_;iterate 3 refine aA rfl rfl ?_
 rcases ite_some ht22 with ⟨c23,ht22⟩|⟨c23,ht22⟩;rotate_left
 ·refine TL.off rfl rfl rfl rfl (eF c23) rfl rfl ?_;refine TL.off rfl rfl rfl rfl (eF c23) rfl rfl ?_;refine TL.off rfl rfl rfl rfl (eF c23) rfl rfl ?_;refine TL.off rfl rfl rfl rfl (eF c23) rfl rfl ?_;refine TL.off rfl rfl rfl rfl (eF c23) rfl rfl ?_;refine TL.off rfl rfl rfl rfl (eF c23) rfl rfl ?_;refine TL.off rfl rfl rfl rfl (eF c23) rfl rfl ?_;refine TL.off rfl rfl rfl rfl (eF c23) rfl rfl ?_;refine TL.off rfl rfl rfl rfl (eF c23) rfl rfl ?_;refine TL.off rfl rfl rfl rfl (eF c23) rfl rfl ?_;refine TL.off rfl rfl rfl rfl (eF c23) rfl rfl ?_;refine TL.off rfl rfl rfl rfl (eF c23) rfl rfl ?_;refine TL.off rfl rfl rfl rfl (eF c23) rfl rfl ?_;refine TL.off rfl rfl rfl rfl (eF c23) rfl rfl ?_;refine TL.op1 (OpR.pickF rfl (eF c23) rfl) rfl ?_;refine TL.nil ?_;obtain rfl:=osi ht22;exact⟨_,Gst.only [0,1,2,3,8,38] rfl,rfl⟩
 refine TL.on rfl rfl rfl rfl (eT c23) ?_;refine aA rfl rfl ?_;refine TL.on rfl rfl rfl rfl (eT c23) ?_;refine aA rfl rfl ?_;refine TL.on rfl rfl rfl rfl (eT c23) ?_;refine aA rfl rfl ?_;refine TL.on rfl rfl rfl rfl (eT c23) ?_;refine aA rfl rfl ?_;refine TL.on rfl rfl rfl rfl (eT c23) ?_;refine aA rfl rfl ?_;refine TL.on rfl rfl rfl rfl (eT c23) ?_;refine aA rfl rfl ?_;refine TL.on rfl rfl rfl rfl (eT c23) ?_;refine aA rfl rfl ?_;refine TL.on rfl rfl rfl rfl (eT c23) ?_;obtain⟨x24,hx24,ht22⟩:=bS ht22;obtain⟨x25,hx25,ht22⟩:=bS ht22;rw[o_tNd_eq hx25] at hx24;refine TL.op1 (OpR.indexM eNP hx24 rfl rfl rfl rfl rfl) rfl ?_;refine TL.on rfl rfl rfl rfl (eT c23) ?_;refine aA rfl rfl ?_;refine TL.on rfl rfl rfl rfl (eT c23) ?_;refine aA rfl rfl ?_;refine TL.on rfl rfl rfl rfl (eT c23) ?_;refine aA rfl rfl ?_;refine TL.on rfl rfl rfl rfl (eT c23) ?_;refine aA rfl rfl ?_;refine TL.on rfl rfl rfl rfl (eT c23) ?_;refine aA rfl rfl ?_;refine TL.on rfl rfl rfl rfl (eT c23) ?_;refine aA rfl rfl ?_;refine TL.op1 (OpR.pickT rfl (eT c23) rfl) rfl ?_;refine TL.nil ?_;obtain rfl:=osi ht22;exact⟨_,Gst.only [0,1,2,3,8,38] rfl,rfl⟩
noncomputable def walk_stack_row_Row_forth.l1 (s7:(List wFr)):Option (Lp (List wFr) (Ex (List wFr) (Bool × (List wFr)))):=
 if (s7.length:Int)>0 then
  bnd (walk_stack_row_Row_top s7) fun x16=>
  bnd (idx s7 x16) fun x17=>
  bnd (some x17.fN) fun q18=>match q18 with
   | none=>
    none
   | some z19=>
    bnd (o_tNd z19) fun x21=>
    bnd (idx x21.fKids x17.fNext) fun x23=>
    bnd (o_tNd x23) fun x24=>
    bnd (idx (s7.set x16.toNat (⟨x17.fN,w64 (x17.fFirst+x24.fN),x17.fNext⟩:wFr)) x16) fun x25=>
    bnd (idx ((s7.set x16.toNat (⟨x17.fN,w64 (x17.fFirst+x24.fN),x17.fNext⟩:wFr)).set x16.toNat (⟨x25.fN,x25.fFirst,w64 (x25.fNext+1)⟩:wFr)) x16) fun x26=>
    bnd (some x26.fN) fun q27=>match q27 with
     | none=>
      none
     | some z28=>
      bnd (o_tNd z28) fun x30=>
      if x26.fNext<(x30.fKids.length:Int) then
       bnd (idx x30.fKids x26.fNext) fun x34=>
       bnd (o_tNd x34) fun x35=>
       bnd (walk_stack_row_Row_down_2 x35.fKids x35.fItems x35.fN x26.fFirst x26.fFirst ((s7.set x16.toNat (⟨x17.fN,w64 (x17.fFirst+x24.fN),x17.fNext⟩:wFr)).set x16.toNat (⟨x25.fN,x25.fFirst,w64 (x25.fNext+1)⟩:wFr))) fun x36=>
       some (Lp.done (Ex.ret (true,x36)))
      else
       bnd (some (((s7.set x16.toNat (⟨x17.fN,w64 (x17.fFirst+x24.fN),x17.fNext⟩:wFr)).set x16.toNat (⟨x25.fN,x25.fFirst,w64 (x25.fNext+1)⟩:wFr)).length:Int)) fun x38=>
       bnd (cut ((s7.set x16.toNat (⟨x17.fN,w64 (x17.fFirst+x24.fN),x17.fNext⟩:wFr)).set x16.toNat (⟨x25.fN,x25.fFirst,w64 (x25.fNext+1)⟩:wFr)) 0 (w64 (x38-1))) fun x39=>
       some (Lp.next x39)
 else
  some (Lp.done (Ex.brk s7))
noncomputable def walk_stack_row_Row_forth (a0:List wFr):Option (Bool × (List wFr)):=
 bnd (cut a0 0 (w64 ((a0.length:Int)-1))) fun x2=>
 bnd (loop walk_stack_row_Row_forth.l1 x2:Option (Ex (List wFr) (Bool × (List wFr)))) fun t3=>match t3 with
| .brk u4=>
 some (false,u4)
| .ret u4=>some u4
theorem walk_stack_row_Row_forth_c {a0:List wFr} {b0:Nat} {v1:Value} {res:Bool × (List wFr)} (h0:walk_stack_row_Row_forth a0=some res):CallF X 150 [dP b0] [.var b0 [.val v1] 228,.row v1 (List.map e_wFr a0) 3 234] (fun x=>(dT res.1)) (fun x=>[.var b0 [.val (vn x 0)] 228,.row (vn x 0) (List.map e_wFr res.2) 3 234]):=by
 unfold walk_stack_row_Row_forth at h0;refine CallF.mkG (X:=X) rfl Tryz.func150 rfl rfl Tryz.ntmps150 rfl rfl ?_;refine aS ?_;refine aA rfl rfl ?_;refine aN rfl ?_;refine T.seq ?_;obtain⟨x2,hx2,h0⟩:=bS h0;refine T.drawS drawsX (fun env1=>[dP b0,dP b0,dP b0,dP b0,.val v1,dP b0,dP b0,dP b0,.val v1,dN (a0.length:Int),dN (w64 ((a0.length:Int)-1)),.val (vw v1 (0:Int).toNat (w64 ((a0.length:Int)-1):Int).toNat 3),dP b0,dP b0,.dead]) (fun D env1=>[(bif D 14 then .var b0 [.val (vw v1 (0:Int).toNat (w64 ((a0.length:Int)-1):Int).toNat 3)] 228 else .var b0 [.val v1] 228),.row v1 (List.map e_wFr a0) 3 234]) [0,0,2,6,14,0,32,96,224,480,992,2046,4095,8191,16383] [0,2] _ (by decide +kernel) (by decide +kernel) (fun _=>rfl) (fun _=>rfl) ?_ (fun _=>rfl) (fun _=>rfl) ?_
 ·iterate 4 refine aC ?_
  refine OpsS.cons' true ?_ (fun _ _ _ _ _ _ _=>rfl) ?_
  ·intro D env1 hA;have e14:D 14=false:=hA.no 14 _ rfl rfl;exact OpS.yp [(14,false)] ⟨e14,trivial⟩ (Want.plain rfl) (OpR.loadPtr 0 rfl rfl rfl rfl) (fun x=>rfl) (fun x=>rfl)
  iterate 3 refine aC ?_
  refine OpsS.cons' true ?_ (fun _ _ _ _ _ _ _=>rfl) ?_
  ·intro D env1 hA;have e14:D 14=false:=hA.no 14 _ rfl rfl;exact OpS.yp [(14,false)] ⟨e14,trivial⟩ (Want.plain rfl) (OpR.loadPtr 0 rfl rfl rfl rfl) (fun x=>rfl) (fun x=>rfl)
  refine oT ((dN (a0.length:Int))) (fun _ _=>OpR.rowLenM e_wFr 1 rfl rfl rfl rfl) ?_;refine aC ?_;refine oT (.val (vw v1 (0:Int).toNat (w64 ((a0.length:Int)-1):Int).toNat 3)) (fun _ _=>OpR.sliceRowM e_wFr 1 hx2 rfl rfl rfl rfl rfl rfl BdM.none (BdM.some rfl)) ?_;iterate 2 refine aC ?_
  refine OpsS.cons' true ?_ (fun _ _ _ _ _ _ _=>rfl) ?_
  ·intro D env1 hA;exact OpS.yp [(14,false)] ⟨hA.me,trivial⟩ (Want.plain rfl) (OpR.store 0 rfl rfl rfl rfl rfl rfl rfl rfl) (fun x=>rfl) (fun x=>rfl)
  exact trivial
 intro env1;show T X _ _ _;refine T.ghost (Gst.truncM (ow:=[.var b0 [.val (vw v1 (0:Int).toNat (w64 ((a0.length:Int)-1):Int).toNat 3)] 228,.row v1 (List.map e_wFr a0) 3 234]) e_wFr 1 hx2 rfl rfl) ?_;refine T.seq ?_;obtain⟨t3,ht3,h0⟩:=bS h0;refine T.cutC (fun S'=>∃ u4,t3=Ex.brk u4∧∃ y5:Value,S'=⟨[(2,(dT false))],[.var b0 [.val y5] 228,.row y5 (List.map e_wFr u4) 3 234],106⟩) (fun _ h=>h) ?_ ?_;rotate_left
 ·rintro _ ⟨u4,rfl,y5,rfl⟩;show T X _ _ _;refine aS ?_;refine aA rfl rfl ?_;refine aN rfl ?_;refine T.ret ?_;obtain rfl:=osi h0;exact rO [0,1] [2] rfl (.tuple #[y5]) (cT rfl ResL.nil) rfl rfl rfl rfl
 refine T.block ?_;obtain⟨n8,n13⟩:=loop_some ht3;refine T.loop (fun n S'=>∃ S'',Gst S' S''∧∃ y6:Value,∃ s7:(List wFr),S''=⟨[(2,(dT false)),(0,(dP b0))],[.var b0 [.val y6] 228,.row y6 (List.map e_wFr s7) 3 234],106⟩∧iter walk_stack_row_Row_forth.l1 n s7=some t3) n8 ?_ ?_
 ·exact⟨_,Gst.only [0,2] rfl,(vw v1 (0:Int).toNat (w64 ((a0.length:Int)-1):Int).toNat 3),x2,rfl,n13⟩
 rintro n8 _ ⟨_,g,y6,s7,rfl,i12⟩;refine T.ghost g ?_;obtain⟨m9,q10,rfl,q11,i12⟩:=iter_succ i12;unfold walk_stack_row_Row_forth.l1 at q11;refine T.seq ?_;refine aS ?_;iterate 3 refine aA rfl rfl ?_
 refine TL.op1 (OpR.loadPtr 0 rfl rfl rfl rfl) rfl ?_;refine TL.op1 (OpR.rowLenM e_wFr 1 rfl rfl rfl rfl) rfl ?_;refine aA rfl rfl ?_;refine aN rfl ?_;rcases ite_some q11 with ⟨c15,q11⟩|⟨c15,q11⟩;rotate_left
 ·refine T.condF rfl (eF c15) ?_;refine T.exit ?_;obtain rfl:=osi q11;obtain rfl:_=_:=i12;exact⟨_,Gst.only [2] rfl,_,rfl,y6,rfl⟩
 refine T.condT rfl (eT c15) ?_;refine aK rfl ?_;refine T.block ?_;refine aS ?_;refine aA rfl rfl ?_;obtain⟨x16,hx16,q11⟩:=bS q11;refine TL.op1 (OpR.call [0,1] fn149 (walk_stack_row_Row_top_c hx16) rfl rfl rfl (fun _=>rfl)) rfl ?_;refine aA rfl rfl ?_;refine aN rfl ?_;refine T.seq ?_;obtain⟨x17,hx17,q11⟩:=bS q11;obtain⟨q18,hq18,q11⟩:=bS q11;rcases q18 with _|z19
 ·dsimp only at q11;exact (by cases q11)
 dsimp only at q11;obtain⟨x21,hx21,q11⟩:=bS q11;rw[o_tNd_eq hx21] at hq18;obtain⟨x23,hx23,q11⟩:=bS q11;obtain⟨x24,hx24,q11⟩:=bS q11;rw[o_tNd_eq hx24] at hx23;refine T.drawS drawsX (fun env22=>[.val (.pointer (some ⟨blk y6,x16.toNat*3,none⟩)),.val (.pointer (some ⟨blk y6,x16.toNat*3,none⟩)),.val (.pointer (some ⟨blk y6,x16.toNat*3+1,none⟩)),dN x17.fFirst,.val (.pointer (some ⟨blk y6,x16.toNat*3,none⟩)),.val (.pointer (some ⟨blk y6,x16.toNat*3,none⟩)),.val (.pointer (some ⟨blk y6,x16.toNat*3,none⟩)),.nod [.sl 1 (List.map eNP x21.fKids),.sl 3 (List.map e_row_Row x21.fItems),dN x21.fN],.nod [.sl 1 (List.map eNP x21.fKids),.sl 3 (List.map e_row_Row x21.fItems),dN x21.fN],.nod [.sl 1 (List.map eNP x21.fKids),.sl 3 (List.map e_row_Row x21.fItems),dN x21.fN],.sl 1 (List.map eNP x21.fKids),.val (.pointer (some ⟨blk y6,x16.toNat*3,none⟩)),.val (.pointer (some ⟨blk y6,x16.toNat*3,none⟩)),.val (.pointer (some ⟨blk y6,x16.toNat*3+2,none⟩)),dN x17.fNext,.nod [.nod [.sl 1 (List.map eNP x24.fKids),.sl 3 (List.map e_row_Row x24.fItems),dN x24.fN]],.nod [.sl 1 (List.map eNP x24.fKids),.sl 3 (List.map e_row_Row x24.fItems),dN x24.fN],.nod [.sl 1 (List.map eNP x24.fKids),.sl 3 (List.map e_row_Row x24.fItems),dN x24.fN],.nod [dN x24.fN],dN x24.fN,dN (w64 (x17.fFirst+x24.fN)),.val (.pointer (some ⟨blk y6,x16.toNat*3,none⟩)),.val (.pointer (some ⟨blk y6,x16.toNat*3+1,none⟩)),.dead]) (fun D env22=>[.var b0 [.val y6] 228,(bif D 23 then .row y6 (List.map e_wFr (s7.set x16.toNat (⟨x17.fN,w64 (x17.fFirst+x24.fN),x17.fNext⟩:wFr))) 3 234 else .row y6 (List.map e_wFr s7) 3 234)]) [0,1,3,7,0,16,48,112,240,496,1008,0,2048,6144,14336,32752,65520,131056,262128,524272,1048575,2097151,4194303,8388607] [0,2,3] _ (by decide +kernel) (by decide +kernel) (fun _=>rfl) (fun _=>rfl) ?_ (fun _=>rfl) (fun _=>rfl) ?_
 ·iterate 3 refine aC ?_
  refine OpsS.cons' true ?_ (fun _ _ _ _ _ _ _=>rfl) ?_
  ·intro D env22 hA;have e23:D 23=false:=hA.no 23 _ rfl rfl;exact OpS.yp [(23,false)] ⟨e23,trivial⟩ (Want.plain rfl) (OpR.rowLoadM (j:=x16) e_wFr 1 hx17 rfl rfl rfl rfl) (fun x=>rfl) (fun x=>rfl)
  iterate 3 refine aC ?_
  refine OpsS.cons' true ?_ (fun _ _ _ _ _ _ _=>rfl) ?_
  ·intro D env22 hA;have e23:D 23=false:=hA.no 23 _ rfl rfl;exact OpS.yp [(23,false)] ⟨e23,trivial⟩ (Want.plain rfl) (OpR.cast (OpR.rowLoad0M (j:=x16) e_wFr 1 hx17 rfl rfl rfl rfl) (congrArg eOP (osi hq18))) (fun x=>rfl) (fun x=>rfl)
  iterate 6 refine aC ?_
  refine OpsS.cons' true ?_ (fun _ _ _ _ _ _ _=>rfl) ?_
  ·intro D env22 hA;have e23:D 23=false:=hA.no 23 _ rfl rfl;exact OpS.yp [(23,false)] ⟨e23,trivial⟩ (Want.plain rfl) (OpR.rowLoadM (j:=x16) e_wFr 1 hx17 rfl rfl rfl rfl) (fun x=>rfl) (fun x=>rfl)
  refine oT (.nod [.nod [.sl 1 (List.map eNP x24.fKids),.sl 3 (List.map e_row_Row x24.fItems),dN x24.fN]]) (fun _ _=>OpR.indexM eNP hx23 rfl rfl rfl rfl rfl) ?_;iterate 7 refine aC ?_
  refine OpsS.cons' true ?_ (fun _ _ _ _ _ _ _=>rfl) ?_
  ·intro D env22 hA;exact OpS.yp [(23,false)] ⟨hA.me,trivial⟩ (Want.plain rfl) (OpR.rowStoreM (j:=x16) e_wFr (⟨x17.fN,w64 (x17.fFirst+x24.fN),x17.fNext⟩:wFr) 1 hx17 rfl rfl rfl rfl rfl rfl rfl rfl rfl) (fun x=>rfl) (fun x=>rfl)
  exact trivial
 intro env22;show T X _ _ _;refine aS ?_;iterate 3 refine aA rfl rfl ?_
 obtain⟨x25,hx25,q11⟩:=bS q11;refine TL.op1 (OpR.rowLoadM (j:=x16) e_wFr 1 hx25 rfl rfl rfl rfl) rfl ?_;iterate 3 refine aA rfl rfl ?_
 refine TL.op0 (OpR.rowStoreM (j:=x16) e_wFr (⟨x25.fN,x25.fFirst,w64 (x25.fNext+1)⟩:wFr) 1 hx25 rfl rfl rfl rfl rfl rfl rfl rfl rfl) ?_;refine aN rfl ?_;refine T.seq ?_;refine T.seq ?_;obtain⟨x26,hx26,q11⟩:=bS q11;obtain⟨q27,hq27,q11⟩:=bS q11;rcases q27 with _|z28
 ·dsimp only at q11;exact (by cases q11)
 dsimp only at q11;obtain⟨x30,hx30,q11⟩:=bS q11;rw[o_tNd_eq hx30] at hq27;refine T.drawQ drawsX [.val (.pointer (some ⟨blk y6,x16.toNat*3,none⟩)),.val (.pointer (some ⟨blk y6,x16.toNat*3,none⟩)),.val (.pointer (some ⟨blk y6,x16.toNat*3+2,none⟩)),dN x26.fNext,.val (.pointer (some ⟨blk y6,x16.toNat*3,none⟩)),.val (.pointer (some ⟨blk y6,x16.toNat*3,none⟩)),.val (.pointer (some ⟨blk y6,x16.toNat*3,none⟩)),.nod [.sl 1 (List.map eNP x30.fKids),.sl 3 (List.map e_row_Row x30.fItems),dN x30.fN],.nod [.sl 1 (List.map eNP x30.fKids),.sl 3 (List.map e_row_Row x30.fItems),dN x30.fN],.nod [.sl 1 (List.map eNP x30.fKids),.sl 3 (List.map e_row_Row x30.fItems),dN x30.fN],.sl 1 (List.map eNP x30.fKids),dN (x30.fKids.length:Int),dT (decide (x26.fNext<(x30.fKids.length:Int)))] [0,2,3,68] (by decide +kernel) rfl ?_ rfl ?_
 ·iterate 3 refine aB rfl rfl rfl ?_
  refine OpsQ.yes (Want.plain rfl) rfl (OpR.rowLoadM (j:=x16) e_wFr 1 hx26 rfl rfl rfl rfl) ?_;iterate 3 refine aB rfl rfl rfl ?_
  refine OpsQ.yes (Want.plain rfl) rfl (OpR.cast (OpR.rowLoad0M (j:=x16) e_wFr 1 hx26 rfl rfl rfl rfl) (congrArg eOP (osi hq27))) ?_;iterate 3 refine aB rfl rfl rfl ?_
  refine OpsQ.yes (Want.plain rfl) rfl (OpR.cast (OpR.pure rfl) (intE (lenM _ _))) ?_;refine aB rfl rfl rfl ?_;exact OpsQ.nil
 show T X _ _ _;rcases ite_some q11 with ⟨c32,q11⟩|⟨c32,q11⟩;rotate_left
 ·refine T.condF rfl (eF c32) ?_;refine aK rfl ?_;obtain⟨x38,hx38,q11⟩:=bS q11;obtain⟨x39,hx39,q11⟩:=bS q11;refine T.drawS drawsX (fun env37=>[dP b0,dP b0,dP b0,dP b0,.val y6,dP b0,dP b0,dP b0,.val y6,dN x38,dN (w64 (x38-1)),.val (vw y6 (0:Int).toNat (w64 (x38-1):Int).toNat 3),dP b0,dP b0,.dead]) (fun D env37=>[(bif D 14 then .var b0 [.val (vw y6 (0:Int).toNat (w64 (x38-1):Int).toNat 3)] 228 else .var b0 [.val y6] 228),.row y6 (List.map e_wFr ((s7.set x16.toNat (⟨x17.fN,w64 (x17.fFirst+x24.fN),x17.fNext⟩:wFr)).set x16.toNat (⟨x25.fN,x25.fFirst,w64 (x25.fNext+1)⟩:wFr))) 3 234]) [0,0,2,6,14,0,32,96,224,480,992,2046,4095,8191,16383] [0,2] _ (by decide +kernel) (by decide +kernel) (fun _=>rfl) (fun _=>rfl) ?_ (fun _=>rfl) (fun _=>rfl) ?_;rotate_left
  ·intro env37;obtain rfl:=osi q11;exact⟨m9,Nat.lt_succ_self _,_,Gst.trans (Gst.truncM (ow:=[.var b0 [.val (vw y6 (0:Int).toNat (w64 (x38-1):Int).toNat 3)] 228,.row y6 (List.map e_wFr ((s7.set x16.toNat (⟨x17.fN,w64 (x17.fFirst+x24.fN),x17.fNext⟩:wFr)).set x16.toNat (⟨x25.fN,x25.fFirst,w64 (x25.fNext+1)⟩:wFr))) 3 234]) e_wFr 1 hx39 rfl rfl) (Gst.only [0,2] rfl),(vw y6 (0:Int).toNat (w64 (x38-1):Int).toNat 3),x39,rfl,i12⟩
  iterate 4 refine aC ?_
  refine OpsS.cons' true ?_ (fun _ _ _ _ _ _ _=>rfl) ?_
  ·intro D env37 hA;have e14:D 14=false:=hA.no 14 _ rfl rfl;exact OpS.yp [(14,false)] ⟨e14,trivial⟩ (Want.plain rfl) (OpR.loadPtr 0 rfl rfl rfl rfl) (fun x=>rfl) (fun x=>rfl)
  iterate 3 refine aC ?_
  refine OpsS.cons' true ?_ (fun _ _ _ _ _ _ _=>rfl) ?_
  ·intro D env37 hA;have e14:D 14=false:=hA.no 14 _ rfl rfl;exact OpS.yp [(14,false)] ⟨e14,trivial⟩ (Want.plain rfl) (OpR.loadPtr 0 rfl rfl rfl rfl) (fun x=>rfl) (fun x=>rfl)
  refine oT ((dN x38)) (fun _ _=>OpR.cast (OpR.rowLenM e_wFr 1 rfl rfl rfl rfl) (intE (osi hx38))) ?_;refine aC ?_;refine oT (.val (vw y6 (0:Int).toNat (w64 (x38-1):Int).toNat 3)) (fun _ _=>OpR.sliceRowM e_wFr 1 hx39 rfl rfl rfl rfl rfl rfl BdM.none (BdM.some rfl)) ?_;iterate 2 refine aC ?_
  refine OpsS.cons' true ?_ (fun _ _ _ _ _ _ _=>rfl) ?_
  ·intro D env37 hA;exact OpS.yp [(14,false)] ⟨hA.me,trivial⟩ (Want.plain rfl) (OpR.store 0 rfl rfl rfl rfl rfl rfl rfl rfl) (fun x=>rfl) (fun x=>rfl)
  exact trivial
 refine T.condT rfl (eT c32) ?_;refine T.seq ?_;obtain⟨x34,hx34,q11⟩:=bS q11;obtain⟨x35,hx35,q11⟩:=bS q11;rw[o_tNd_eq hx35] at hx34;obtain⟨x36,hx36,q11⟩:=bS q11;refine T.drawS drawsX (fun env33=>[dP b0,.val (.pointer (some ⟨blk y6,x16.toNat*3,none⟩)),.val (.pointer (some ⟨blk y6,x16.toNat*3,none⟩)),.val (.pointer (some ⟨blk y6,x16.toNat*3,none⟩)),.nod [.sl 1 (List.map eNP x30.fKids),.sl 3 (List.map e_row_Row x30.fItems),dN x30.fN],.nod [.sl 1 (List.map eNP x30.fKids),.sl 3 (List.map e_row_Row x30.fItems),dN x30.fN],.nod [.sl 1 (List.map eNP x30.fKids),.sl 3 (List.map e_row_Row x30.fItems),dN x30.fN],.sl 1 (List.map eNP x30.fKids),.val (.pointer (some ⟨blk y6,x16.toNat*3,none⟩)),.val (.pointer (some ⟨blk y6,x16.toNat*3,none⟩)),.val (.pointer (some ⟨blk y6,x16.toNat*3+2,none⟩)),dN x26.fNext,.nod [.nod [.sl 1 (List.map eNP x35.fKids),.sl 3 (List.map e_row_Row x35.fItems),dN x35.fN]],.nod [.sl 1 (List.map eNP x35.fKids),.sl 3 (List.map e_row_Row x35.fItems),dN x35.fN],.val (.pointer (some ⟨blk y6,x16.toNat*3,none⟩)),.val (.pointer (some ⟨blk y6,x16.toNat*3,none⟩)),.val (.pointer (some ⟨blk y6,x16.toNat*3+1,none⟩)),dN x26.fFirst,.val (.pointer (some ⟨blk y6,x16.toNat*3,none⟩)),.val (.pointer (some ⟨blk y6,x16.toNat*3,none⟩)),.val (.pointer (some ⟨blk y6,x16.toNat*3+1,none⟩)),dN x26.fFirst,.tup []]) (fun D env33=>[(bif D 22 then .var b0 [.val (vn (env33 22) 0)] 228 else .var b0 [.val y6] 228),(bif D 22 then .row (vn (env33 22) 0) (List.map e_wFr x36) 3 234 else .row y6 (List.map e_wFr ((s7.set x16.toNat (⟨x17.fN,w64 (x17.fFirst+x24.fN),x17.fNext⟩:wFr)).set x16.toNat (⟨x25.fN,x25.fFirst,w64 (x25.fNext+1)⟩:wFr))) 3 234)]) [0,0,2,6,14,30,62,126,0,256,768,1792,4094,8190,0,16384,49152,114688,0,262144,786432,1835008,4194303] [0,2] _ (by decide +kernel) (by decide +kernel) (fun _=>rfl) (fun _=>rfl) ?_ (fun _=>rfl) (fun _=>rfl) ?_;rotate_left
 ·intro env33;show T X _ _ _;refine aS ?_;refine aA rfl rfl ?_;refine aN rfl ?_;refine T.ret ?_;obtain rfl:=osi q11;obtain rfl:_=_:=i12;obtain rfl:=osi h0;exact rO [0,1] [2] rfl (.tuple #[(vn (env33 22) 0)]) (cT rfl ResL.nil) rfl rfl rfl rfl
 iterate 4 refine aC ?_
 refine OpsS.cons' true ?_ (fun _ _ _ _ _ _ _=>rfl) ?_
 ·intro D env33 hA;have e22:D 22=false:=hA.no 22 _ rfl rfl;exact OpS.yp [(22,false)] ⟨e22,trivial⟩ (Want.plain rfl) (OpR.cast (OpR.rowLoad0M (j:=x16) e_wFr 1 hx26 rfl rfl rfl rfl) (congrArg eOP (osi hq27))) (fun x=>rfl) (fun x=>rfl)
 iterate 6 refine aC ?_
 refine OpsS.cons' true ?_ (fun _ _ _ _ _ _ _=>rfl) ?_
 ·intro D env33 hA;have e22:D 22=false:=hA.no 22 _ rfl rfl;exact OpS.yp [(22,false)] ⟨e22,trivial⟩ (Want.plain rfl) (OpR.rowLoadM (j:=x16) e_wFr 1 hx26 rfl rfl rfl rfl) (fun x=>rfl) (fun x=>rfl)
 refine oT (.nod [.nod [.sl 1 (List.map eNP x35.fKids),.sl 3 (List.map e_row_Row x35.fItems),dN x35.fN]]) (fun _ _=>OpR.indexM eNP hx34 rfl rfl rfl rfl rfl) ?_;iterate 4 refine aC ?_
 refine OpsS.cons' true ?_ (fun _ _ _ _ _ _ _=>rfl) ?_
 ·intro D env33 hA;have e22:D 22=false:=hA.no 22 _ rfl rfl;exact OpS.yp [(22,false)] ⟨e22,trivial⟩ (Want.plain rfl) (OpR.rowLoadM (j:=x16) e_wFr 1 hx26 rfl rfl rfl rfl) (fun x=>rfl) (fun x=>rfl)
 iterate 3 refine aC ?_
 refine OpsS.cons' true ?_ (fun _ _ _ _ _ _ _=>rfl) ?_
 ·intro D env33 hA;have e22:D 22=false:=hA.no 22 _ rfl rfl;exact OpS.yp [(22,false)] ⟨e22,trivial⟩ (Want.plain rfl) (OpR.rowLoadM (j:=x16) e_wFr 1 hx26 rfl rfl rfl rfl) (fun x=>rfl) (fun x=>rfl)
 refine OpsS.cons' true ?_ (fun D hA env33 x j hj hD=>match j,hj,hD with|0,_,_=>rfl|1,_,_=>rfl|2,_,_=>rfl|3,_,_=>rfl|4,_,_=>rfl|5,_,_=>rfl|6,_,_=>rfl|7,_,_=>rfl|8,_,_=>rfl|9,_,_=>rfl|10,_,_=>rfl|11,_,_=>rfl|12,_,_=>rfl|13,_,_=>rfl|14,_,_=>rfl|15,_,_=>rfl|16,_,_=>rfl|17,_,_=>rfl|18,_,_=>rfl|19,_,_=>rfl|20,_,_=>rfl|21,_,_=>rfl|22,hj,_=>absurd rfl hj|_+23,_,_=>rfl) ?_
 ·intro D env33 hA;exact OpS.yp [(22,false)] ⟨hA.me,trivial⟩ (Want.plain rfl) (OpR.call [0,1] fn147 (walk_stack_row_Row_down_2_c hx36) rfl rfl rfl (fun _=>rfl)) (fun x=>rfl) (fun x=>rfl)
 exact trivial
noncomputable def walk_All_row_Row_r0 (a0:Int) (a1:row_Row) (a2:List row_Row):Option (List row_Row):=
 bnd (app 40 a2 [a1]) fun x32=>
 some x32
theorem walk_All_row_Row_r0_c {a0:Int} {a1:row_Row} {a2:List row_Row} {b0:Nat} {b1:Nat} {v2:Value} {res:(List row_Row)} (h0:walk_All_row_Row_r0 a0 a1 a2=some res):RoundF X b0 [dN a0,.agg [.sl 5 (List.map e_cell_Cell a1.fCells),dN a1.fEnd,dT a1.fHidden]] [.lp b0 .ready none [13,14] rfA100_0 rfB100_0 [(3,(dP b1))] 20,.var b1 [.val v2] 163,.row v2 (List.map e_row_Row a2) 3 49] (fun x=>(dT true)) (fun x=>[.lp b0 .ready none [13,14] rfA100_0 rfB100_0 [(3,(dP b1))] 20,.var b1 [.val (vn x 0)] 163,.row (vn x 0) (List.map e_row_Row res) 3 49]):=by
 unfold walk_All_row_Row_r0 at h0;refine RoundF.mk (X:=X) rfl rfl rfl ?_;refine T.region ?_;refine TL.op (OpR.alloc rfl rfl (fun _=>rfl)) rfl (fun p31=>?_);refine TL.op0 (OpR.store 3 rfl rfl rfl rfl rfl rfl rfl rfl) ?_;refine TL.nil ?_;refine RoundA.mk ?_;refine T.block ?_;refine T.region ?_;refine TL.op1 (OpR.loadPtr 1 rfl rfl rfl rfl) rfl ?_;refine TL.op1 (OpR.loadPtr 3 rfl rfl rfl rfl) rfl ?_;refine TL.op1 (OpR.lit rfl rfl rfl rfl rfl rfl rfl) rfl ?_;obtain⟨x32,hx32,h0⟩:=bS h0;refine TL.op (OpR.appendM (m:=[a1]) e_row_Row 2 hx32 rfl rfl rfl rfl rfl rfl rfl rfl rfl (fun _=>rfl)) rfl (fun v33=>?_);refine TL.op0 (OpR.store 1 rfl rfl rfl rfl rfl rfl rfl rfl) ?_;refine TL.nil ?_;obtain rfl:=osi h0;exact RoundG.mk (ks:=[0,1,2]) (gP [] [0,1,2] rfl rfl rfl) (.tuple #[v33]) rfl rfl rfl rfl rfl
noncomputable def walk_Range_row_Row_1.l1 (a1:Int) (s10:Int × (List row_Row) × (List wFr)):Option (Lp (Int × (List row_Row) × (List wFr)) (List row_Row)):=
 if s10.1<a1 then
  bnd (walk_stack_row_Row_top s10.2.2) fun x19=>
  bnd (idx s10.2.2 x19) fun x20=>
  bnd (some x20.fN) fun q21=>match q21 with
   | none=>
    none
   | some z22=>
    bnd (o_tNd z22) fun x24=>
    bnd (if x20.fNext=(x24.fItems.length:Int) then
     bnd (walk_stack_row_Row_forth s10.2.2) fun x29=>
     some x29.2
    else
     some s10.2.2:Option (List wFr)) fun t26=>
    bnd (walk_stack_row_Row_top t26) fun x31=>
    bnd (idx t26 x31) fun x32=>
    bnd (some x32.fN) fun q33=>match q33 with
     | none=>
      none
     | some z34=>
      bnd (o_tNd z34) fun x36=>
      bnd (idx x36.fItems x32.fNext) fun x38=>
      bnd (walk_All_row_Row_r0 s10.1 x38 s10.2.1) fun x39=>
      some (Lp.next (w64 (s10.1+1),x39,(t26.set x31.toNat (⟨x32.fN,x32.fFirst,w64 (x32.fNext+1)⟩:wFr))))
 else
  some (Lp.done s10.2.1)
noncomputable def walk_Range_row_Row_1 (a0:Int) (a1:Int) (a2:Option NP) (a3:List row_Row):Option (List row_Row):=
 if a0=a1 then
 some a3
else
 bnd (tree_Tree_row_Row_Root (⟨a2⟩:tTr)) fun x4=>
 match x4 with
| .inl x4=>
 none
| .inr x4=>
 bnd (walk_stack_row_Row_down x4.1 x4.2.1 x4.2.2 0 a0) fun x5=>
 bnd (loop (walk_Range_row_Row_1.l1 a1) (a0,a3,x5):Option (List row_Row)) fun t6=>
 some t6
theorem walk_Range_row_Row_1_c {a0:Int} {a1:Int} {a2:Option NP} {a3:List row_Row} {b0:Nat} {b1:Nat} {b2:Nat} {b3:Nat} {b4:Nat} {v5:Value} {res:(List row_Row)} (h0:walk_Range_row_Row_1 a0 a1 a2 a3=some res):CallF X 146 [.fn (.yield b0) [] [],dP b1,dP b2,dP b3] [.lp b0 .ready none [13,14] rfA100_0 rfB100_0 [(3,(dP b4))] 20,.var b1 [dN a0] 3,.var b2 [dN a1] 3,.var b3 [(eOP a2)] 25,.var b4 [.val v5] 163,.row v5 (List.map e_row_Row a3) 3 49] (fun x=>.tup []) (fun x=>[.lp b0 .ready none [13,14] rfA100_0 rfB100_0 [(3,(dP b4))] 20,.var b1 [dN a0] 3,.var b2 [dN a1] 3,.var b3 [(eOP a2)] 25,.var b4 [.val (vn x 0)] 163,.row (vn x 0) (List.map e_row_Row res) 3 49]):=by
 unfold walk_Range_row_Row_1 at h0;refine CallF.mkG (X:=X) rfl Tryz.func146 rfl rfl Tryz.ntmps146 rfl rfl ?_;refine T.seq ?_;refine aS ?_;refine TL.op1 (OpR.loadPtr 1 rfl rfl rfl rfl) rfl ?_;refine TL.op1 (OpR.loadPtr 2 rfl rfl rfl rfl) rfl ?_;refine aA rfl rfl ?_;refine aN rfl ?_;rcases ite_some h0 with ⟨c1,h0⟩|⟨c1,h0⟩
 ·refine T.condT rfl (beq_iff_eq.2 c1) ?_;refine T.ret ?_;obtain rfl:=osi h0;exact rO [0,1,2,3,4,5] [] rfl (.tuple #[v5]) ResL.nil rfl rfl rfl rfl
 refine T.condF rfl (beq_eq_false_iff_ne.2 c1) ?_;refine aK rfl ?_;refine aS ?_;refine TL.op (OpR.alloc rfl rfl (fun _=>rfl)) rfl (fun p2=>?_);refine aN rfl ?_;refine T.seq ?_;obtain⟨x4,hx4,h0⟩:=bS h0;rcases x4 with x4|x4
 ·dsimp only at h0;exact (by cases h0)
 dsimp only at h0;obtain⟨x5,hx5,h0⟩:=bS h0;refine T.drawS drawsX (fun env3=>[.agg [(eOP a2)],.nod [.sl 1 (List.map eNP x4.1),.sl 3 (List.map e_row_Row x4.2.1),dN x4.2.2],dN a0,.tup []]) (fun D env3=>[.lp b0 .ready none [13,14] rfA100_0 rfB100_0 [(3,(dP b4))] 20,.var b1 [dN a0] 3,.var b2 [dN a1] 3,.var b3 [(eOP a2)] 25,.var b4 [.val v5] 163,.row v5 (List.map e_row_Row a3) 3 49,(bif D 3 then .var (blk p2) [.val (vn (env3 3) 0)] 228 else .var (blk p2) [.val (.slice none 0 0)] 228)]++(bif D 3 then [.row (vn (env3 3) 0) (List.map e_wFr x5) 3 234] else [])) [0,1,0,7] [0,1,2,5] _ (by decide +kernel) (by decide +kernel) (fun _=>rfl) (fun _=>rfl) ?_ (fun _=>rfl) (fun _=>rfl) ?_
 ·refine oT (.agg [(eOP a2)]) (fun _ _=>OpR.loadPtr 3 rfl rfl rfl rfl) ?_;refine oT (.nod [.sl 1 (List.map eNP x4.1),.sl 3 (List.map e_row_Row x4.2.1),dN x4.2.2]) (fun _ _=>OpR.call0 fn148 (tree_Tree_row_Row_Root_cx2 hx4) rfl) ?_;refine oT ((dN a0)) (fun _ _=>OpR.loadPtr 1 rfl rfl rfl rfl) ?_;refine OpsS.cons' true ?_ (fun D hA env3 x j hj hD=>match j,hj,hD with|0,_,_=>rfl|1,_,_=>rfl|2,_,_=>rfl|3,hj,_=>absurd rfl hj|_+4,_,_=>rfl) ?_
  ·intro D env3 hA;exact OpS.yp [(3,false)] ⟨hA.me,trivial⟩ (Want.plain rfl) (OpR.call [6] fn147 (walk_stack_row_Row_down_c hx5) rfl rfl rfl (fun _=>rfl)) (fun x=>rfl) (fun x=>rfl)
  exact trivial
 intro env3;show T X _ _ _;refine aS ?_;refine TL.op1 (OpR.loadPtr 1 rfl rfl rfl rfl) rfl ?_;refine aA rfl rfl ?_;refine aN rfl ?_;obtain⟨t6,ht6,h0⟩:=bS h0;refine T.cutN (fun S'=>∃ y7:Value,S'=⟨[],[.lp b0 .ready none [13,14] rfA100_0 rfB100_0 [(3,(dP b4))] 20,.var b1 [dN a0] 3,.var b2 [dN a1] 3,.var b3 [(eOP a2)] 25,.var b4 [.val y7] 163,.row y7 (List.map e_row_Row t6) 3 49],62⟩) (fun _ _ g ⟨h,S',ds,g',r⟩=>⟨h,S',ds,Gst.trans g g',r⟩) ?_ ?_;rotate_left
 ·rintro _ ⟨y7,rfl⟩;obtain rfl:=osi h0;exact PostG.finP (ks:=[0,1,2,3,4,5]) (Gst.only [] rfl) (.tuple #[y7]) ResL.nil rfl rfl rfl rfl
 refine T.block ?_;obtain⟨n11,n16⟩:=loop_some ht6;refine T.loop (fun n S'=>∃ S'',Gst S' S''∧∃ y8:Value,∃ y9:Value,∃ s10:Int × (List row_Row) × (List wFr),S''=⟨[(6,(dN s10.1)),(5,(dP (blk p2))),(2,(dP b2)),(0,.fn (.yield b0) [] [])],[.lp b0 .ready none [13,14] rfA100_0 rfB100_0 [(3,(dP b4))] 20,.var b1 [dN a0] 3,.var b2 [dN a1] 3,.var b3 [(eOP a2)] 25,.var b4 [.val y8] 163,.row y8 (List.map e_row_Row s10.2.1) 3 49,.var (blk p2) [.val y9] 228,.row y9 (List.map e_wFr s10.2.2) 3 234],62⟩∧iter (walk_Range_row_Row_1.l1 a1) n s10=some t6) n11 ?_ ?_
 ·exact⟨_,Gst.only [0,2,5,6] rfl,v5,(vn (env3 3) 0),(a0,a3,x5),rfl,n16⟩
 rintro n11 _ ⟨_,g,y8,y9,s10,rfl,i15⟩;refine T.ghost g ?_;obtain⟨m12,q13,rfl,q14,i15⟩:=iter_succ i15;unfold walk_Range_row_Row_1.l1 at q14;refine T.seq ?_;refine aS ?_;refine aA rfl rfl ?_;refine TL.op1 (OpR.loadPtr 2 rfl rfl rfl rfl) rfl ?_;refine aA rfl rfl ?_;refine aN rfl ?_;rcases ite_some q14 with ⟨c18,q14⟩|⟨c18,q14⟩;rotate_left
 ·refine T.condF rfl (eF c18) ?_;refine T.exit ?_;obtain rfl:=osi q14;obtain rfl:_=_:=i15;exact⟨_,gP [] [0,1,2,3,4,5] rfl rfl rfl,y8,rfl⟩
 refine T.condT rfl (eT c18) ?_;refine aK rfl ?_;refine T.seq ?_;refine T.block ?_;refine T.seq ?_;refine aS ?_;obtain⟨x19,hx19,q14⟩:=bS q14;refine TL.op1 (OpR.call [6,7] fn149 (walk_stack_row_Row_top_c hx19) rfl rfl rfl (fun _=>rfl)) rfl ?_;refine aA rfl rfl ?_;refine aN rfl ?_;refine T.seq ?_;obtain⟨x20,hx20,q14⟩:=bS q14;obtain⟨q21,hq21,q14⟩:=bS q14;rcases q21 with _|z22
 ·dsimp only at q14;exact (by cases q14)
 dsimp only at q14;obtain⟨x24,hx24,q14⟩:=bS q14;rw[o_tNd_eq hx24] at hq21;refine T.drawQ drawsX [.val (.pointer (some ⟨blk y9,x19.toNat*3,none⟩)),.val (.pointer (some ⟨blk y9,x19.toNat*3,none⟩)),.val (.pointer (some ⟨blk y9,x19.toNat*3+2,none⟩)),dN x20.fNext,.val (.pointer (some ⟨blk y9,x19.toNat*3,none⟩)),.val (.pointer (some ⟨blk y9,x19.toNat*3,none⟩)),.val (.pointer (some ⟨blk y9,x19.toNat*3,none⟩)),.nod [.sl 1 (List.map eNP x24.fKids),.sl 3 (List.map e_row_Row x24.fItems),dN x24.fN],.nod [.sl 1 (List.map eNP x24.fKids),.sl 3 (List.map e_row_Row x24.fItems),dN x24.fN],.nod [.sl 3 (List.map e_row_Row x24.fItems),dN x24.fN],.sl 3 (List.map e_row_Row x24.fItems),dN (x24.fItems.length:Int),dT (x20.fNext==(x24.fItems.length:Int))] [0,2,5,6,35] (by decide +kernel) rfl ?_ rfl ?_
 ·iterate 3 refine aB rfl rfl rfl ?_
  refine OpsQ.yes (Want.plain rfl) rfl (OpR.rowLoadM (j:=x19) e_wFr 7 hx20 rfl rfl rfl rfl) ?_;iterate 3 refine aB rfl rfl rfl ?_
  refine OpsQ.yes (Want.plain rfl) rfl (OpR.cast (OpR.rowLoad0M (j:=x19) e_wFr 7 hx20 rfl rfl rfl rfl) (congrArg eOP (osi hq21))) ?_;iterate 3 refine aB rfl rfl rfl ?_
  refine OpsQ.yes (Want.plain rfl) rfl (OpR.cast (OpR.pure rfl) (intE (lenM _ _))) ?_;refine aB rfl rfl rfl ?_;exact OpsQ.nil
 show T X _ _ _;obtain⟨t26,ht26,q14⟩:=bS q14;refine T.cutC (fun S'=>∃ y27:Value,S'=⟨[(6,(dN s10.1)),(5,(dP (blk p2))),(2,(dP b2)),(0,.fn (.yield b0) [] [])],[.lp b0 .ready none [13,14] rfA100_0 rfB100_0 [(3,(dP b4))] 20,.var b1 [dN a0] 3,.var b2 [dN a1] 3,.var b3 [(eOP a2)] 25,.var b4 [.val y8] 163,.row y8 (List.map e_row_Row s10.2.1) 3 49,.var (blk p2) [.val y27] 228,.row y27 (List.map e_wFr t26) 3 234],62⟩) (fun _ h=>h) ?_ ?_
 ·rcases ite_some ht26 with ⟨c28,ht26⟩|⟨c28,ht26⟩;rotate_left
  ·refine T.condF rfl (beq_eq_false_iff_ne.2 c28) ?_;refine T.skip ?_;obtain rfl:=osi ht26;exact⟨_,Gst.only [0,2,5,6] rfl,y9,rfl⟩
  refine T.condT rfl (beq_iff_eq.2 c28) ?_;refine T.region ?_;obtain⟨x29,hx29,ht26⟩:=bS ht26;refine TL.op (OpR.call [6,7] fn150 (walk_stack_row_Row_forth_c hx29) rfl rfl rfl (fun _=>rfl)) rfl (fun w30=>?_);refine TL.nil ?_;obtain rfl:=osi ht26;exact⟨_,Gst.only [0,2,5,6] rfl,(vn w30 0),rfl⟩
 rintro _ ⟨y27,rfl⟩;show T X _ _ _;refine aS ?_;obtain⟨x31,hx31,q14⟩:=bS q14;refine TL.op1 (OpR.call [6,7] fn149 (walk_stack_row_Row_top_c hx31) rfl rfl rfl (fun _=>rfl)) rfl ?_;refine aA rfl rfl ?_;refine aN rfl ?_;refine T.seq ?_;refine T.seq ?_;obtain⟨x32,hx32,q14⟩:=bS q14;obtain⟨q33,hq33,q14⟩:=bS q14;rcases q33 with _|z34
 ·dsimp only at q14;exact (by cases q14)
 dsimp only at q14;obtain⟨x36,hx36,q14⟩:=bS q14;rw[o_tNd_eq hx36] at hq33;obtain⟨x38,hx38,q14⟩:=bS q14;obtain⟨x39,hx39,q14⟩:=bS q14;refine T.drawS drawsX (fun env37=>[.fn (.yield b0) [] [],dN s10.1,.val (.pointer (some ⟨blk y27,x31.toNat*3,none⟩)),.val (.pointer (some ⟨blk y27,x31.toNat*3,none⟩)),.val (.pointer (some ⟨blk y27,x31.toNat*3,none⟩)),.nod [.sl 1 (List.map eNP x36.fKids),.sl 3 (List.map e_row_Row x36.fItems),dN x36.fN],.nod [.sl 1 (List.map eNP x36.fKids),.sl 3 (List.map e_row_Row x36.fItems),dN x36.fN],.nod [.sl 3 (List.map e_row_Row x36.fItems),dN x36.fN],.sl 3 (List.map e_row_Row x36.fItems),.val (.pointer (some ⟨blk y27,x31.toNat*3,none⟩)),.val (.pointer (some ⟨blk y27,x31.toNat*3,none⟩)),.val (.pointer (some ⟨blk y27,x31.toNat*3+2,none⟩)),dN x32.fNext,.nod [.sl 5 (List.map e_cell_Cell x38.fCells),dN x38.fEnd,dT x38.fHidden],.agg [.sl 5 (List.map e_cell_Cell x38.fCells),dN x38.fEnd,dT x38.fHidden],dT true,dT false]) (fun D env37=>[.lp b0 .ready none [13,14] rfA100_0 rfB100_0 [(3,(dP b4))] 20,.var b1 [dN a0] 3,.var b2 [dN a1] 3,.var b3 [(eOP a2)] 25,(bif D 15 then .var b4 [.val (vn (env37 15) 0)] 163 else .var b4 [.val y8] 163),(bif D 15 then .row (vn (env37 15) 0) (List.map e_row_Row x39) 3 49 else .row y8 (List.map e_row_Row s10.2.1) 3 49),.var (blk p2) [.val y27] 228,.row y27 (List.map e_wFr t26) 3 234]) [0,0,0,4,12,28,60,124,252,0,512,1536,3584,8188,16380,32767,65535] [0,2,5,6,8,54] _ (by decide +kernel) (by decide +kernel) (fun _=>rfl) (fun _=>rfl) ?_ (fun _=>rfl) (fun _=>rfl) ?_;rotate_left
 ·intro env37;show T X _ _ _;refine T.condF rfl rfl ?_;refine aK rfl ?_;refine T.region ?_;iterate 3 refine aA rfl rfl ?_
  refine TL.op1 (OpR.rowLoadM (j:=x31) e_wFr 7 hx32 rfl rfl rfl rfl) rfl ?_;iterate 3 refine aA rfl rfl ?_
  refine TL.op0 (OpR.rowStoreM (j:=x31) e_wFr (⟨x32.fN,x32.fFirst,w64 (x32.fNext+1)⟩:wFr) 7 hx32 rfl rfl rfl rfl rfl rfl rfl rfl rfl) ?_;refine aN rfl ?_;refine T.region ?_;iterate 3 refine aA rfl rfl ?_
  refine TL.nil ?_;obtain rfl:=osi q14;exact⟨m12,Nat.lt_succ_self _,_,Gst.only [0,2,5,6] rfl,(vn (env37 15) 0),y27,(w64 (s10.1+1),x39,(t26.set x31.toNat (⟨x32.fN,x32.fFirst,w64 (x32.fNext+1)⟩:wFr))),rfl,i15⟩
 iterate 5 refine aC ?_
 refine oT (.nod [.sl 1 (List.map eNP x36.fKids),.sl 3 (List.map e_row_Row x36.fItems),dN x36.fN]) (fun _ _=>OpR.cast (OpR.rowLoad0M (j:=x31) e_wFr 7 hx32 rfl rfl rfl rfl) (congrArg eOP (osi hq33))) ?_;iterate 6 refine aC ?_
 refine oT ((dN x32.fNext)) (fun _ _=>OpR.rowLoadM (j:=x31) e_wFr 7 hx32 rfl rfl rfl rfl) ?_;refine oT (.nod [.sl 5 (List.map e_cell_Cell x38.fCells),dN x38.fEnd,dT x38.fHidden]) (fun _ _=>OpR.indexM e_row_Row hx38 rfl rfl rfl rfl rfl) ?_;refine aC ?_;refine OpsS.cons' true ?_ (fun D hA env37 x j hj hD=>match j,hj,hD with|0,_,_=>rfl|1,_,_=>rfl|2,_,_=>rfl|3,_,_=>rfl|4,_,_=>rfl|5,_,_=>rfl|6,_,_=>rfl|7,_,_=>rfl|8,_,_=>rfl|9,_,_=>rfl|10,_,_=>rfl|11,_,_=>rfl|12,_,_=>rfl|13,_,_=>rfl|14,_,_=>rfl|15,hj,_=>absurd rfl hj|16,_,_=>rfl|_+17,_,_=>rfl) ?_
 ·intro D env37 hA;exact OpS.yp [(15,false)] ⟨hA.me,trivial⟩ (Want.plain rfl) (OpR.callY [0,4,5] rfl (walk_All_row_Row_r0_c hx39) rfl rfl rfl (fun _=>rfl)) (fun x=>rfl) (fun x=>rfl)
 refine aC ?_;exact trivial
noncomputable def walk_All_row_Row (a0:tTr):Option (List row_Row):=
 bnd (tree_Tree_row_Row_Len a0) fun x1=>
 bnd ((mkc 40 x1:Option (List row_Row))) fun x2=>
 bnd (tree_Tree_row_Row_Len a0) fun x6=>
 bnd (walk_Range_row_Row a0 0 x6) fun x7=>
 bnd (walk_Range_row_Row_1 x7.1 x7.2.1 x7.2.2 x2) fun x9=>
 some x9
theorem walk_All_row_Row_c {a0:tTr} {res:(List row_Row)} (h0:walk_All_row_Row a0=some res):CallF X 100 [.agg [(eOP a0.fRoot)]] [] (fun x=>.sl 3 (List.map e_row_Row res)) (fun x=>[]):=by
 unfold walk_All_row_Row at h0;refine CallF.mkG (X:=X) rfl Tryz.func100 rfl rfl Tryz.ntmps100 rfl rfl ?_;refine aS ?_;refine TL.op1 (OpR.boxImm rfl rfl) rfl ?_;refine aA rfl rfl ?_;refine aN rfl ?_;refine aS ?_;refine aA rfl rfl ?_;obtain⟨x1,hx1,h0⟩:=bS h0;refine TL.op1 (OpR.call0 fn79 (tree_Tree_row_Row_Len_c hx1) rfl) rfl ?_;obtain⟨x2,hx2,h0⟩:=bS h0;refine TL.op (OpR.makeC e_row_Row hx2 rfl rfl rfl rfl rfl rfl rfl (fun _=>rfl)) rfl (fun v3=>?_);refine TL.op (OpR.alloc rfl rfl (fun _=>rfl)) rfl (fun p4=>?_);refine TL.op0 (OpR.store 1 rfl rfl rfl rfl rfl rfl rfl rfl) ?_;refine aN rfl ?_;refine T.seq ?_;refine T.seq ?_;obtain⟨x6,hx6,h0⟩:=bS h0;obtain⟨x7,hx7,h0⟩:=bS h0;refine T.drawS drawsX (fun env5=>[.agg [(eOP a0.fRoot)],.agg [(eOP a0.fRoot)],dN x6,.fn (.func 146) [] [dP (blk (vn (env5 3) 0)),dP (blk (vn (env5 3) 1)),dP (blk (vn (env5 3) 2))]]) (fun D env5=>[.row v3 (List.map e_row_Row x2) 3 49,.var (blk p4) [.val v3] 163]++(bif D 3 then [.var (blk (vn (env5 3) 0)) [dN x7.1] 3] else [])++(bif D 3 then [.var (blk (vn (env5 3) 1)) [dN x7.2.1] 3] else [])++(bif D 3 then [.var (blk (vn (env5 3) 2)) [(eOP x7.2.2)] 25] else [])) [0,0,2,7] [2,3,12] _ (by decide +kernel) (by decide +kernel) (fun _=>rfl) (fun _=>rfl) ?_ (fun _=>rfl) (fun _=>rfl) ?_;rotate_left
 ·intro env5;show T X _ _ _;refine T.block ?_;obtain⟨x9,hx9,h0⟩:=bS h0;refine T.rangeN (A:=rfA100_0) (B:=rfB100_0) [3] [2,3,4,1,0] (.inl rfl) rfl rfl rfl rfl rfl fn146 rfl rfl (fun l8=>(walk_Range_row_Row_1_c hx9)) (fun _=>rfl) (fun w10=>?_);show T X _ _ _;refine aS ?_;refine TL.op1 (OpR.loadPtr 1 rfl rfl rfl rfl) rfl ?_;refine aA rfl rfl ?_;refine aN rfl ?_;refine T.ret ?_;obtain rfl:=osi h0;exact PostG.retP (ks:=[]) (Gst.trans (Gst.only [2] rfl) (Gst.trans (Gst.freezeRow 0 rfl rfl (ReS.cons (Re.base .all) ReS.nil) (ReO.same (ReO.var (ReL.cons (Re.base .all) ReL.nil) (ReO.same (ReO.same (ReO.same ReO.nil)))))) (Gst.pick [] rfl rfl))) undef (cT rfl ResL.nil) rfl rfl rfl rfl
 iterate 2 refine aC ?_
 refine oT ((dN x6)) (fun _ _=>OpR.call0 fn79 (tree_Tree_row_Row_Len_c hx6) rfl) ?_;refine OpsS.cons' true ?_ (fun D hA env5 x j hj hD=>match j,hj,hD with|0,_,_=>rfl|1,_,_=>rfl|2,_,_=>rfl|3,hj,_=>absurd rfl hj|_+4,_,_=>rfl) ?_
 ·intro D env5 hA;exact OpS.yp [(3,false)] ⟨hA.me,trivial⟩ (Want.plain rfl) (OpR.call [] fn80 (walk_Range_row_Row_c hx7) rfl rfl rfl (fun _=>rfl)) (fun x=>rfl) (fun x=>rfl)
 exact trivial
noncomputable def row_Row_has (a0:row_Row) (a1:Int):Option Bool:=
 bnd (if a1≥0 then
 some (decide (a1<(a0.fCells.length:Int)))
else
 some false:Option Bool) fun t1=>
 some t1
theorem row_Row_has_c {a0:row_Row} {a1:Int} {res:Bool} (h0:row_Row_has a0 a1=some res):CallF X 158 [.agg [.sl 5 (List.map e_cell_Cell a0.fCells),dN a0.fEnd,dT a0.fHidden],dN a1] [] (fun x=>(dT res)) (fun x=>[]):=by
 unfold row_Row_has at h0;refine CallF.mkG (X:=X) rfl Tryz.func158 rfl rfl Tryz.ntmps158 rfl rfl ?_;refine aS ?_;refine TL.op1 (OpR.boxImm rfl rfl) rfl ?_;refine aA rfl rfl ?_;refine aN rfl ?_;refine T.seq ?_;obtain⟨t1,ht1,h0⟩:=bS h0;refine T.cutC (fun S'=>S'=⟨[(4,(dT t1))],[],14⟩) (fun _ h=>h) ?_ ?_;rotate_left
 ·rintro _ rfl;show T X _ _ _;refine T.ret ?_;obtain rfl:=osi h0;exact rO [] [4] rfl undef (cT rfl ResL.nil) rfl rfl rfl rfl
 refine T.region ?_;iterate 3 refine aA rfl rfl ?_
 rcases ite_some ht1 with ⟨c2,ht1⟩|⟨c2,ht1⟩;rotate_left
 ·refine TL.off rfl rfl rfl rfl (eF c2) rfl rfl ?_;refine TL.off rfl rfl rfl rfl (eF c2) rfl rfl ?_;refine TL.off rfl rfl rfl rfl (eF c2) rfl rfl ?_;refine TL.off rfl rfl rfl rfl (eF c2) rfl rfl ?_;refine TL.off rfl rfl rfl rfl (eF c2) rfl rfl ?_;refine TL.op1 (OpR.pickF rfl (eF c2) rfl) rfl ?_;refine aA rfl rfl ?_;refine TL.nil ?_;obtain rfl:=osi ht1;exact⟨_,Gst.only [4] rfl,rfl⟩
 refine TL.on rfl rfl rfl rfl (eT c2) ?_;refine aA rfl rfl ?_;refine TL.on rfl rfl rfl rfl (eT c2) ?_;refine aA rfl rfl ?_;refine TL.on rfl rfl rfl rfl (eT c2) ?_;refine aA rfl rfl ?_;refine TL.on rfl rfl rfl rfl (eT c2) ?_;refine TL.op1 (OpR.cast (OpR.pure rfl) (intE (lenM _ _))) rfl ?_;refine TL.on rfl rfl rfl rfl (eT c2) ?_;refine aA rfl rfl ?_;refine TL.op1 (OpR.pickT rfl (eT c2) rfl) rfl ?_;refine aA rfl rfl ?_;refine TL.nil ?_;obtain rfl:=osi ht1;exact⟨_,Gst.only [4] rfl,rfl⟩
noncomputable def row_Row_At (a0:row_Row) (a1:Int):Option (cell_Cell × Bool):=
 bnd (row_Row_has a0 a1) fun x2=>
 if x2=true then
 bnd (idx a0.fCells a1) fun x4=>
 some (x4,true)
else
 some ((⟨(⟨[],0⟩:piece_Text),(⟨0,0⟩:arena_Span),false⟩:cell_Cell),false)
theorem row_Row_At_c {a0:row_Row} {a1:Int} {res:cell_Cell × Bool} (h0:row_Row_At a0 a1=some res):CallF X 111 [.agg [.sl 5 (List.map e_cell_Cell a0.fCells),dN a0.fEnd,dT a0.fHidden],dN a1] [] (fun x=>.tup [.agg [.sl 2 (List.map e_arena_Span res.1.fText.fL),dN res.1.fText.fN,dN res.1.fRaw.fAt,dN res.1.fRaw.fN,dT res.1.fKept],dT res.2]) (fun x=>[]):=by
 unfold row_Row_At at h0;refine CallF.mkG (X:=X) rfl Tryz.func111 rfl rfl Tryz.ntmps111 rfl rfl ?_;refine aS ?_;refine TL.op1 (OpR.boxImm rfl rfl) rfl ?_;refine TL.op (OpR.alloc rfl rfl (fun _=>rfl)) rfl (fun p1=>?_);refine aA rfl rfl ?_;refine aN rfl ?_;refine T.seq ?_;refine aS ?_;iterate 2 refine aA rfl rfl ?_
 obtain⟨x2,hx2,h0⟩:=bS h0;refine TL.op1 (OpR.call0 fn158 (row_Row_has_c hx2) rfl) rfl ?_;refine aA rfl rfl ?_;refine aN rfl ?_;rcases ite_some h0 with ⟨c3,h0⟩|⟨c3,h0⟩;rotate_left
 ·refine T.condT rfl (not_f (eq_false_of_ne_true c3)) ?_;refine aS ?_;refine TL.op1 (OpR.build rfl rfl rfl rfl rfl) rfl ?_;refine TL.op0 (OpR.store 0 rfl rfl rfl rfl rfl rfl rfl rfl) ?_;refine aA rfl rfl ?_;refine aN rfl ?_;refine T.ret ?_;obtain rfl:=osi h0;exact PostG.retP (ks:=[]) (Gst.trans (Gst.only [4,5] rfl) (Gst.denil (ReS.cons Re.refl (ReS.cons Re.refl ReS.nil)) (ReO.var (ReL.cons (Re.base .nil) (ReL.cons Re.refl (ReL.cons Re.refl (ReL.cons Re.refl (ReL.cons Re.refl ReL.nil))))) ReO.nil))) undef (cV 0 rfl rfl rfl rfl (cT rfl ResL.nil)) rfl rfl rfl rfl
 refine T.condF rfl (not_t (c3)) ?_;refine aK rfl ?_;refine aS ?_;iterate 3 refine aA rfl rfl ?_
 obtain⟨x4,hx4,h0⟩:=bS h0;refine TL.op1 (OpR.indexM e_cell_Cell hx4 rfl rfl rfl rfl rfl) rfl ?_;refine aA rfl rfl ?_;refine TL.op0 (OpR.store 0 rfl rfl rfl rfl rfl rfl rfl rfl) ?_;refine aA rfl rfl ?_;refine aN rfl ?_;refine T.ret ?_;obtain rfl:=osi h0;exact rO [] [4,5] rfl undef (cV 0 rfl rfl rfl rfl (cT rfl ResL.nil)) rfl rfl rfl rfl
noncomputable def filter_of (a0:Int):Option (Unit ⊕ (Unit ⊕ (Unit ⊕ (Unit ⊕ (Unit ⊕ (Unit ⊕ Unit)))))):=
 if a0=0 then
 some (Sum.inl ())
else
 if a0=1 then
 some (Sum.inr (Sum.inl ()))
else
 if a0=2 then
 some (Sum.inr (Sum.inr (Sum.inl ())))
else
 if a0=3 then
 some (Sum.inr (Sum.inr (Sum.inr (Sum.inl ()))))
else
 if a0=4 then
 some (Sum.inr (Sum.inr (Sum.inr (Sum.inr (Sum.inl ())))))
else
 if a0=5 then
 some (Sum.inr (Sum.inr (Sum.inr (Sum.inr (Sum.inr (Sum.inl ()))))))
else
 some (Sum.inr (Sum.inr (Sum.inr (Sum.inr (Sum.inr (Sum.inr ()))))))
theorem filter_of_c {a0:Int} {res:Unit ⊕ (Unit ⊕ (Unit ⊕ (Unit ⊕ (Unit ⊕ (Unit ⊕ Unit)))))} (h0:filter_of a0=some res):CallF X 112 [dN a0] [] (fun x=>(match res with | .inl res=>.agg [.fn (.func 175) [] []] | .inr (.inl res)=>.agg [.fn (.func 177) [] []] | .inr (.inr (.inl res))=>.agg [.fn (.func 178) [] []] | .inr (.inr (.inr (.inl res)))=>.agg [.fn (.func 179) [] []] | .inr (.inr (.inr (.inr (.inl res))))=>.agg [.fn (.func 180) [] []] | .inr (.inr (.inr (.inr (.inr (.inl res)))))=>.agg [.fn (.func 181) [] []] | .inr (.inr (.inr (.inr (.inr (.inr res)))))=>.agg [.fn (.func 182) [] []])) (fun x=>(match res with | .inl res=>[] | .inr (.inl res)=>[] | .inr (.inr (.inl res))=>[] | .inr (.inr (.inr (.inl res)))=>[] | .inr (.inr (.inr (.inr (.inl res))))=>[] | .inr (.inr (.inr (.inr (.inr (.inl res)))))=>[] | .inr (.inr (.inr (.inr (.inr (.inr res)))))=>[])):=by
 unfold filter_of at h0;refine CallF.mkG (X:=X) rfl Tryz.func112 rfl rfl Tryz.ntmps112 rfl rfl ?_;refine aS ?_;refine TL.op (OpR.alloc rfl rfl (fun _=>rfl)) rfl (fun p1=>?_);refine aN rfl ?_;refine T.seq ?_;refine aS ?_;refine aA rfl rfl ?_;refine aN rfl ?_;refine T.block ?_;refine aS ?_;iterate 2 refine aA rfl rfl ?_
 refine aN rfl ?_;rcases ite_some h0 with ⟨c2,h0⟩|⟨c2,h0⟩
 ·refine T.condT rfl (beq_iff_eq.2 c2) ?_;refine aS ?_;refine TL.op1 (OpR.build rfl rfl rfl rfl rfl) rfl ?_;refine TL.op0 (OpR.store 0 rfl rfl rfl rfl rfl rfl rfl rfl) ?_;refine aN rfl ?_;refine T.ret ?_;obtain rfl:=osi h0;exact rO [] [2] rfl undef (cV 0 rfl rfl rfl rfl ResL.nil) rfl rfl rfl rfl
 refine T.condF rfl (beq_eq_false_iff_ne.2 c2) ?_;refine aS ?_;iterate 2 refine aA rfl rfl ?_
 refine aN rfl ?_;rcases ite_some h0 with ⟨c3,h0⟩|⟨c3,h0⟩
 ·refine T.condT rfl (beq_iff_eq.2 c3) ?_;refine aS ?_;refine TL.op1 (OpR.build rfl rfl rfl rfl rfl) rfl ?_;refine TL.op0 (OpR.store 0 rfl rfl rfl rfl rfl rfl rfl rfl) ?_;refine aN rfl ?_;refine T.ret ?_;obtain rfl:=osi h0;exact rO [] [2] rfl undef (cV 0 rfl rfl rfl rfl ResL.nil) rfl rfl rfl rfl
 refine T.condF rfl (beq_eq_false_iff_ne.2 c3) ?_;refine aS ?_;iterate 2 refine aA rfl rfl ?_
 refine aN rfl ?_;rcases ite_some h0 with ⟨c4,h0⟩|⟨c4,h0⟩
 ·refine T.condT rfl (beq_iff_eq.2 c4) ?_;refine aS ?_;refine TL.op1 (OpR.build rfl rfl rfl rfl rfl) rfl ?_;refine TL.op0 (OpR.store 0 rfl rfl rfl rfl rfl rfl rfl rfl) ?_;refine aN rfl ?_;refine T.ret ?_;obtain rfl:=osi h0;exact rO [] [2] rfl undef (cV 0 rfl rfl rfl rfl ResL.nil) rfl rfl rfl rfl
 refine T.condF rfl (beq_eq_false_iff_ne.2 c4) ?_;refine aS ?_;iterate 2 refine aA rfl rfl ?_
 refine aN rfl ?_;rcases ite_some h0 with ⟨c5,h0⟩|⟨c5,h0⟩
 ·refine T.condT rfl (beq_iff_eq.2 c5) ?_;refine aS ?_;refine TL.op1 (OpR.build rfl rfl rfl rfl rfl) rfl ?_;refine TL.op0 (OpR.store 0 rfl rfl rfl rfl rfl rfl rfl rfl) ?_;refine aN rfl ?_;refine T.ret ?_;obtain rfl:=osi h0;exact rO [] [2] rfl undef (cV 0 rfl rfl rfl rfl ResL.nil) rfl rfl rfl rfl
 refine T.condF rfl (beq_eq_false_iff_ne.2 c5) ?_;refine aS ?_;iterate 2 refine aA rfl rfl ?_
 refine aN rfl ?_;rcases ite_some h0 with ⟨c6,h0⟩|⟨c6,h0⟩
 ·refine T.condT rfl (beq_iff_eq.2 c6) ?_;refine aS ?_;refine TL.op1 (OpR.build rfl rfl rfl rfl rfl) rfl ?_;refine TL.op0 (OpR.store 0 rfl rfl rfl rfl rfl rfl rfl rfl) ?_;refine aN rfl ?_;refine T.ret ?_;obtain rfl:=osi h0;exact rO [] [2] rfl undef (cV 0 rfl rfl rfl rfl ResL.nil) rfl rfl rfl rfl
 refine T.condF rfl (beq_eq_false_iff_ne.2 c6) ?_;refine aS ?_;iterate 2 refine aA rfl rfl ?_
 refine aN rfl ?_;rcases ite_some h0 with ⟨c7,h0⟩|⟨c7,h0⟩
 ·refine T.condT rfl (beq_iff_eq.2 c7) ?_;refine aS ?_;refine TL.op1 (OpR.build rfl rfl rfl rfl rfl) rfl ?_;refine TL.op0 (OpR.store 0 rfl rfl rfl rfl rfl rfl rfl rfl) ?_;refine aN rfl ?_;refine T.ret ?_;obtain rfl:=osi h0;exact rO [] [2] rfl undef (cV 0 rfl rfl rfl rfl ResL.nil) rfl rfl rfl rfl
 refine T.condF rfl (beq_eq_false_iff_ne.2 c7) ?_;refine aK rfl ?_;refine aS ?_;refine TL.op1 (OpR.build rfl rfl rfl rfl rfl) rfl ?_;refine TL.op0 (OpR.store 0 rfl rfl rfl rfl rfl rfl rfl rfl) ?_;refine aN rfl ?_;refine T.ret ?_;obtain rfl:=osi h0;exact rO [] [2] rfl undef (cV 0 rfl rfl rfl rfl ResL.nil) rfl rfl rfl rfl
theorem filter_of_cx1 {a0:Int} {res:Unit} (h0:filter_of a0=some (Sum.inl res)):CallF X 112 [dN a0] [] (fun x=>.agg [.fn (.func 175) [] []]) (fun x=>[]):=filter_of_c h0
theorem filter_of_cx2 {a0:Int} {res:Unit} (h0:filter_of a0=some (Sum.inr (Sum.inl res))):CallF X 112 [dN a0] [] (fun x=>.agg [.fn (.func 177) [] []]) (fun x=>[]):=filter_of_c h0
theorem filter_of_cx3 {a0:Int} {res:Unit} (h0:filter_of a0=some (Sum.inr (Sum.inr (Sum.inl res)))):CallF X 112 [dN a0] [] (fun x=>.agg [.fn (.func 178) [] []]) (fun x=>[]):=filter_of_c h0
theorem filter_of_cx4 {a0:Int} {res:Unit} (h0:filter_of a0=some (Sum.inr (Sum.inr (Sum.inr (Sum.inl res))))):CallF X 112 [dN a0] [] (fun x=>.agg [.fn (.func 179) [] []]) (fun x=>[]):=filter_of_c h0
theorem filter_of_cx5 {a0:Int} {res:Unit} (h0:filter_of a0=some (Sum.inr (Sum.inr (Sum.inr (Sum.inr (Sum.inl res)))))):CallF X 112 [dN a0] [] (fun x=>.agg [.fn (.func 180) [] []]) (fun x=>[]):=filter_of_c h0
theorem filter_of_cx6 {a0:Int} {res:Unit} (h0:filter_of a0=some (Sum.inr (Sum.inr (Sum.inr (Sum.inr (Sum.inr (Sum.inl res))))))):CallF X 112 [dN a0] [] (fun x=>.agg [.fn (.func 181) [] []]) (fun x=>[]):=filter_of_c h0
theorem filter_of_cx7 {a0:Int} {res:Unit} (h0:filter_of a0=some (Sum.inr (Sum.inr (Sum.inr (Sum.inr (Sum.inr (Sum.inr res))))))):CallF X 112 [dN a0] [] (fun x=>.agg [.fn (.func 182) [] []]) (fun x=>[]):=filter_of_c h0
noncomputable def arena_Arena_Right (a0:arena_Span) (a1:List UInt8):Option Bool:=
 bnd (if a0.fAt≥0 then
 if a0.fN≥0 then
 if a0.fAt≤(a1.length:Int) then
 some (decide (a0.fN≤(w64 ((a1.length:Int)-a0.fAt))))
else
 some false
else
 some false
else
 some false:Option Bool) fun t1=>
 some t1
theorem arena_Arena_Right_c {a0:arena_Span} {a1:List UInt8} {b0:Nat} {v1:Value} {res:Bool} (h0:arena_Arena_Right a0 a1=some res):CallF X 261 [dP b0,.agg [dN a0.fAt,dN a0.fN]] [.var b0 [.val v1] 264,.row v1 (lB a1) 1 5] (fun x=>(dT res)) (fun x=>[.var b0 [.val v1] 264,.row v1 (lB a1) 1 5]):=by
 unfold arena_Arena_Right at h0;refine CallF.mkG (X:=X) rfl Tryz.func261 rfl rfl Tryz.ntmps261 rfl rfl ?_;refine aS ?_;refine TL.op1 (OpR.boxImm rfl rfl) rfl ?_;refine aA rfl rfl ?_;refine aN rfl ?_;refine T.seq ?_;refine aS ?_;refine aA rfl rfl ?_;refine TL.op1 (OpR.ptrNil (A:=some ⟨b0,0,none⟩) rfl rfl rfl) rfl ?_;refine aN rfl ?_;refine T.condF rfl rfl ?_;refine aK rfl ?_;refine T.seq ?_;obtain⟨t1,ht1,h0⟩:=bS h0;refine T.cutC (fun S'=>S'=⟨[(4,(dT t1))],[.var b0 [.val v1] 264,.row v1 (lB a1) 1 5],38⟩) (fun _ h=>h) ?_ ?_;rotate_left
 ·rintro _ rfl;show T X _ _ _;refine T.ret ?_;obtain rfl:=osi h0;exact rO [0,1] [4] rfl undef (cT rfl ResL.nil) rfl rfl rfl rfl
 rcases ite_some ht1 with ⟨c3,ht1⟩|⟨c3,ht1⟩;rotate_left
 ·refine T.drawQ drawsX [.nod [dN a0.fAt,dN a0.fN],dN a0.fAt,dT (decide (a0.fAt≥0)),dT (decide (a0.fAt≥0)),.tup [],.tup [],.tup [],dT false,dT false,.tup [],.tup [],.tup [],.tup [],.tup [],.tup [],.tup [],.tup [],dT false,dT false,.tup [],.tup [],.tup [],.tup [],.tup [],.tup [],.tup [],.tup [],.tup [],.tup [],.tup [],dT false,dT false] [4] (by decide +kernel) rfl ?_ rfl ?_;rotate_left
  ·obtain rfl:=osi ht1;exact⟨_,Gst.only [4] rfl,rfl⟩
  iterate 4 refine aB rfl rfl rfl ?_
  refine OpsQ.no (Want.bool rfl rfl rfl rfl (by rw[(eF c3)]; rfl)) rfl ?_;refine OpsQ.no (Want.bool rfl rfl rfl rfl (by rw[(eF c3)]; rfl)) rfl ?_;refine OpsQ.no (Want.bool rfl rfl rfl rfl (by rw[(eF c3)]; rfl)) rfl ?_;refine OpsQ.yes (Want.plain rfl) rfl (OpR.pickF rfl (eF c3) rfl) ?_;refine aB rfl rfl rfl ?_;refine OpsQ.no (Want.bool rfl rfl rfl rfl rfl) rfl ?_;refine OpsQ.no (Want.bool rfl rfl rfl rfl rfl) rfl ?_;refine OpsQ.no (Want.bool rfl rfl rfl rfl rfl) rfl ?_;refine OpsQ.no (Want.bool rfl rfl rfl rfl rfl) rfl ?_;refine OpsQ.no (Want.bool rfl rfl rfl rfl rfl) rfl ?_;refine OpsQ.no (Want.bool rfl rfl rfl rfl rfl) rfl ?_;refine OpsQ.no (Want.bool rfl rfl rfl rfl rfl) rfl ?_;refine OpsQ.no (Want.bool rfl rfl rfl rfl rfl) rfl ?_;refine OpsQ.yes (Want.plain rfl) rfl (OpR.pickF rfl rfl rfl) ?_;refine aB rfl rfl rfl ?_;refine OpsQ.no (Want.bool rfl rfl rfl rfl rfl) rfl ?_;refine OpsQ.no (Want.bool rfl rfl rfl rfl rfl) rfl ?_;refine OpsQ.no (Want.bool rfl rfl rfl rfl rfl) rfl ?_;refine OpsQ.no (Want.bool rfl rfl rfl rfl rfl) rfl ?_;refine OpsQ.no (Want.bool rfl rfl rfl rfl rfl) rfl ?_;refine OpsQ.no (Want.bool rfl rfl rfl rfl rfl) rfl ?_;refine OpsQ.no (Want.bool rfl rfl rfl rfl rfl) rfl ?_;refine OpsQ.no (Want.bool rfl rfl rfl rfl rfl) rfl ?_;refine OpsQ.no (Want.bool rfl rfl rfl rfl rfl) rfl ?_;refine OpsQ.no (Want.bool rfl rfl rfl rfl rfl) rfl ?_;refine OpsQ.no (Want.bool rfl rfl rfl rfl rfl) rfl ?_;refine OpsQ.yes (Want.plain rfl) rfl (OpR.pickF rfl rfl rfl) ?_;refine aB rfl rfl rfl ?_;exact OpsQ.nil
 rcases ite_some ht1 with ⟨c4,ht1⟩|⟨c4,ht1⟩;rotate_left
 ·refine T.drawQ drawsX [.nod [dN a0.fAt,dN a0.fN],dN a0.fAt,dT (decide (a0.fAt≥0)),dT (decide (a0.fAt≥0)),.nod [dN a0.fN],dN a0.fN,dT (decide (a0.fN≥0)),dT (decide (a0.fN≥0)),dT (decide (a0.fN≥0)),.tup [],.tup [],.tup [],.tup [],.tup [],.tup [],.tup [],.tup [],dT false,dT false,.tup [],.tup [],.tup [],.tup [],.tup [],.tup [],.tup [],.tup [],.tup [],.tup [],.tup [],dT false,dT false] [4] (by decide +kernel) rfl ?_ rfl ?_;rotate_left
  ·obtain rfl:=osi ht1;exact⟨_,Gst.only [4] rfl,rfl⟩
  iterate 4 refine aB rfl rfl rfl ?_
  refine OpsQ.yes (Want.bool rfl rfl rfl rfl (by rw[(eT c3)]; rfl)) rfl (OpR.pure rfl) ?_;refine OpsQ.yes (Want.bool rfl rfl rfl rfl (by rw[(eT c3)]; rfl)) rfl (OpR.pure rfl) ?_;refine OpsQ.yes (Want.bool rfl rfl rfl rfl (by rw[(eT c3)]; rfl)) rfl (OpR.pure rfl) ?_;refine OpsQ.yes (Want.plain rfl) rfl (OpR.pickT rfl (eT c3) rfl) ?_;refine aB rfl rfl rfl ?_;refine OpsQ.no (Want.bool rfl rfl rfl rfl (by rw[(eF c4)]; rfl)) rfl ?_;refine OpsQ.no (Want.bool rfl rfl rfl rfl (by rw[(eF c4)]; rfl)) rfl ?_;refine OpsQ.no (Want.bool rfl rfl rfl rfl (by rw[(eF c4)]; rfl)) rfl ?_;refine OpsQ.no (Want.bool rfl rfl rfl rfl (by rw[(eF c4)]; rfl)) rfl ?_;refine OpsQ.no (Want.bool rfl rfl rfl rfl (by rw[(eF c4)]; rfl)) rfl ?_;refine OpsQ.no (Want.bool rfl rfl rfl rfl (by rw[(eF c4)]; rfl)) rfl ?_;refine OpsQ.no (Want.bool rfl rfl rfl rfl (by rw[(eF c4)]; rfl)) rfl ?_;refine OpsQ.no (Want.bool rfl rfl rfl rfl (by rw[(eF c4)]; rfl)) rfl ?_;refine OpsQ.yes (Want.plain rfl) rfl (OpR.pickF rfl (eF c4) rfl) ?_;refine aB rfl rfl rfl ?_;refine OpsQ.no (Want.bool rfl rfl rfl rfl rfl) rfl ?_;refine OpsQ.no (Want.bool rfl rfl rfl rfl rfl) rfl ?_;refine OpsQ.no (Want.bool rfl rfl rfl rfl rfl) rfl ?_;refine OpsQ.no (Want.bool rfl rfl rfl rfl rfl) rfl ?_;refine OpsQ.no (Want.bool rfl rfl rfl rfl rfl) rfl ?_;refine OpsQ.no (Want.bool rfl rfl rfl rfl rfl) rfl ?_;refine OpsQ.no (Want.bool rfl rfl rfl rfl rfl) rfl ?_;refine OpsQ.no (Want.bool rfl rfl rfl rfl rfl) rfl ?_;refine OpsQ.no (Want.bool rfl rfl rfl rfl rfl) rfl ?_;refine OpsQ.no (Want.bool rfl rfl rfl rfl rfl) rfl ?_;refine OpsQ.no (Want.bool rfl rfl rfl rfl rfl) rfl ?_;refine OpsQ.yes (Want.plain rfl) rfl (OpR.pickF rfl rfl rfl) ?_;refine aB rfl rfl rfl ?_;exact OpsQ.nil
 rcases ite_some ht1 with ⟨c5,ht1⟩|⟨c5,ht1⟩;rotate_left
 ·refine T.drawQ drawsX [.nod [dN a0.fAt,dN a0.fN],dN a0.fAt,dT (decide (a0.fAt≥0)),dT (decide (a0.fAt≥0)),.nod [dN a0.fN],dN a0.fN,dT (decide (a0.fN≥0)),dT (decide (a0.fN≥0)),dT (decide (a0.fN≥0)),.nod [dN a0.fAt,dN a0.fN],dN a0.fAt,dP b0,dP b0,dP b0,.val v1,dN (a1.length:Int),dT (decide (a0.fAt≤(a1.length:Int))),dT (decide (a0.fAt≤(a1.length:Int))),dT (decide (a0.fAt≤(a1.length:Int))),.tup [],.tup [],.tup [],.tup [],.tup [],.tup [],.tup [],.tup [],.tup [],.tup [],.tup [],dT false,dT false] [4] (by decide +kernel) rfl ?_ rfl ?_;rotate_left
  ·obtain rfl:=osi ht1;exact⟨_,Gst.only [4] rfl,rfl⟩
  iterate 4 refine aB rfl rfl rfl ?_
  refine OpsQ.yes (Want.bool rfl rfl rfl rfl (by rw[(eT c3)]; rfl)) rfl (OpR.pure rfl) ?_;refine OpsQ.yes (Want.bool rfl rfl rfl rfl (by rw[(eT c3)]; rfl)) rfl (OpR.pure rfl) ?_;refine OpsQ.yes (Want.bool rfl rfl rfl rfl (by rw[(eT c3)]; rfl)) rfl (OpR.pure rfl) ?_;refine OpsQ.yes (Want.plain rfl) rfl (OpR.pickT rfl (eT c3) rfl) ?_;refine aB rfl rfl rfl ?_;refine OpsQ.yes (Want.bool rfl rfl rfl rfl (by rw[(eT c4)]; rfl)) rfl (OpR.pure rfl) ?_;refine OpsQ.yes (Want.bool rfl rfl rfl rfl (by rw[(eT c4)]; rfl)) rfl (OpR.pure rfl) ?_;refine OpsQ.yes (Want.bool rfl rfl rfl rfl (by rw[(eT c4)]; rfl)) rfl (OpR.pure rfl) ?_;refine OpsQ.yes (Want.bool rfl rfl rfl rfl (by rw[(eT c4)]; rfl)) rfl (OpR.pure rfl) ?_;refine OpsQ.yes (Want.bool rfl rfl rfl rfl (by rw[(eT c4)]; rfl)) rfl (OpR.pure rfl) ?_;refine OpsQ.yes (Want.bool rfl rfl rfl rfl (by rw[(eT c4)]; rfl)) rfl (OpR.loadPtr 0 rfl rfl rfl rfl) ?_;refine OpsQ.yes (Want.bool rfl rfl rfl rfl (by rw[(eT c4)]; rfl)) rfl (OpR.rowLenM byteD 1 rfl rfl rfl rfl) ?_;refine OpsQ.yes (Want.bool rfl rfl rfl rfl (by rw[(eT c4)]; rfl)) rfl (OpR.pure rfl) ?_;refine OpsQ.yes (Want.plain rfl) rfl (OpR.pickT rfl (eT c4) rfl) ?_;refine aB rfl rfl rfl ?_;refine OpsQ.no (Want.bool rfl rfl rfl rfl (by rw[(eF c5)]; rfl)) rfl ?_;refine OpsQ.no (Want.bool rfl rfl rfl rfl (by rw[(eF c5)]; rfl)) rfl ?_;refine OpsQ.no (Want.bool rfl rfl rfl rfl (by rw[(eF c5)]; rfl)) rfl ?_;refine OpsQ.no (Want.bool rfl rfl rfl rfl (by rw[(eF c5)]; rfl)) rfl ?_;refine OpsQ.no (Want.bool rfl rfl rfl rfl (by rw[(eF c5)]; rfl)) rfl ?_;refine OpsQ.no (Want.bool rfl rfl rfl rfl (by rw[(eF c5)]; rfl)) rfl ?_;refine OpsQ.no (Want.bool rfl rfl rfl rfl (by rw[(eF c5)]; rfl)) rfl ?_;refine OpsQ.no (Want.bool rfl rfl rfl rfl (by rw[(eF c5)]; rfl)) rfl ?_;refine OpsQ.no (Want.bool rfl rfl rfl rfl (by rw[(eF c5)]; rfl)) rfl ?_;refine OpsQ.no (Want.bool rfl rfl rfl rfl (by rw[(eF c5)]; rfl)) rfl ?_;refine OpsQ.no (Want.bool rfl rfl rfl rfl (by rw[(eF c5)]; rfl)) rfl ?_;refine OpsQ.yes (Want.plain rfl) rfl (OpR.pickF rfl (eF c5) rfl) ?_;refine aB rfl rfl rfl ?_;exact OpsQ.nil
 refine T.drawQ drawsX [.nod [dN a0.fAt,dN a0.fN],dN a0.fAt,dT (decide (a0.fAt≥0)),dT (decide (a0.fAt≥0)),.nod [dN a0.fN],dN a0.fN,dT (decide (a0.fN≥0)),dT (decide (a0.fN≥0)),dT (decide (a0.fN≥0)),.nod [dN a0.fAt,dN a0.fN],dN a0.fAt,dP b0,dP b0,dP b0,.val v1,dN (a1.length:Int),dT (decide (a0.fAt≤(a1.length:Int))),dT (decide (a0.fAt≤(a1.length:Int))),dT (decide (a0.fAt≤(a1.length:Int))),.nod [dN a0.fN],dN a0.fN,dP b0,dP b0,dP b0,.val v1,dN (a1.length:Int),.nod [dN a0.fAt,dN a0.fN],dN a0.fAt,dN (w64 ((a1.length:Int)-a0.fAt)),dT (decide (a0.fN≤(w64 ((a1.length:Int)-a0.fAt)))),dT (decide (a0.fN≤(w64 ((a1.length:Int)-a0.fAt)))),dT (decide (a0.fN≤(w64 ((a1.length:Int)-a0.fAt))))] [4] (by decide +kernel) rfl ?_ rfl ?_;rotate_left
 ·obtain rfl:=osi ht1;exact⟨_,Gst.only [4] rfl,rfl⟩
 iterate 4 refine aB rfl rfl rfl ?_
 refine OpsQ.yes (Want.bool rfl rfl rfl rfl (by rw[(eT c3)]; rfl)) rfl (OpR.pure rfl) ?_;refine OpsQ.yes (Want.bool rfl rfl rfl rfl (by rw[(eT c3)]; rfl)) rfl (OpR.pure rfl) ?_;refine OpsQ.yes (Want.bool rfl rfl rfl rfl (by rw[(eT c3)]; rfl)) rfl (OpR.pure rfl) ?_;refine OpsQ.yes (Want.plain rfl) rfl (OpR.pickT rfl (eT c3) rfl) ?_;refine aB rfl rfl rfl ?_;refine OpsQ.yes (Want.bool rfl rfl rfl rfl (by rw[(eT c4)]; rfl)) rfl (OpR.pure rfl) ?_;refine OpsQ.yes (Want.bool rfl rfl rfl rfl (by rw[(eT c4)]; rfl)) rfl (OpR.pure rfl) ?_;refine OpsQ.yes (Want.bool rfl rfl rfl rfl (by rw[(eT c4)]; rfl)) rfl (OpR.pure rfl) ?_;refine OpsQ.yes (Want.bool rfl rfl rfl rfl (by rw[(eT c4)]; rfl)) rfl (OpR.pure rfl) ?_;refine OpsQ.yes (Want.bool rfl rfl rfl rfl (by rw[(eT c4)]; rfl)) rfl (OpR.pure rfl) ?_;refine OpsQ.yes (Want.bool rfl rfl rfl rfl (by rw[(eT c4)]; rfl)) rfl (OpR.loadPtr 0 rfl rfl rfl rfl) ?_;refine OpsQ.yes (Want.bool rfl rfl rfl rfl (by rw[(eT c4)]; rfl)) rfl (OpR.rowLenM byteD 1 rfl rfl rfl rfl) ?_;refine OpsQ.yes (Want.bool rfl rfl rfl rfl (by rw[(eT c4)]; rfl)) rfl (OpR.pure rfl) ?_;refine OpsQ.yes (Want.plain rfl) rfl (OpR.pickT rfl (eT c4) rfl) ?_;refine aB rfl rfl rfl ?_;refine OpsQ.yes (Want.bool rfl rfl rfl rfl (by rw[(eT c5)]; rfl)) rfl (OpR.pure rfl) ?_;refine OpsQ.yes (Want.bool rfl rfl rfl rfl (by rw[(eT c5)]; rfl)) rfl (OpR.pure rfl) ?_;refine OpsQ.yes (Want.bool rfl rfl rfl rfl (by rw[(eT c5)]; rfl)) rfl (OpR.pure rfl) ?_;refine OpsQ.yes (Want.bool rfl rfl rfl rfl (by rw[(eT c5)]; rfl)) rfl (OpR.pure rfl) ?_;refine OpsQ.yes (Want.bool rfl rfl rfl rfl (by rw[(eT c5)]; rfl)) rfl (OpR.pure rfl) ?_;refine OpsQ.yes (Want.bool rfl rfl rfl rfl (by rw[(eT c5)]; rfl)) rfl (OpR.loadPtr 0 rfl rfl rfl rfl) ?_;refine OpsQ.yes (Want.bool rfl rfl rfl rfl (by rw[(eT c5)]; rfl)) rfl (OpR.rowLenM byteD 1 rfl rfl rfl rfl) ?_;refine OpsQ.yes (Want.bool rfl rfl rfl rfl (by rw[(eT c5)]; rfl)) rfl (OpR.pure rfl) ?_;refine OpsQ.yes (Want.bool rfl rfl rfl rfl (by rw[(eT c5)]; rfl)) rfl (OpR.pure rfl) ?_;refine OpsQ.yes (Want.bool rfl rfl rfl rfl (by rw[(eT c5)]; rfl)) rfl (OpR.pure rfl) ?_;refine OpsQ.yes (Want.bool rfl rfl rfl rfl (by rw[(eT c5)]; rfl)) rfl (OpR.pure rfl) ?_;refine OpsQ.yes (Want.plain rfl) rfl (OpR.pickT rfl (eT c5) rfl) ?_;refine aB rfl rfl rfl ?_;exact OpsQ.nil
noncomputable def arena_Arena_part (a0:arena_Span) (a1:List UInt8):Option ((Int × Int) ⊕ (List UInt8)):=
 bnd (arena_Arena_Right a0 a1) fun x1=>
 if x1=true then
 bnd (cut a1 a0.fAt (w64 (a0.fAt+a0.fN))) fun x4=>
 some (Sum.inl (a0.fAt,w64 (a0.fAt+a0.fN)))
else
 some (Sum.inr [])
theorem arena_Arena_part_c {a0:arena_Span} {a1:List UInt8} {b0:Nat} {v1:Value} {res:(Int × Int) ⊕ (List UInt8)} (h0:arena_Arena_part a0 a1=some res):CallF X 231 [dP b0,.agg [dN a0.fAt,dN a0.fN]] [.var b0 [.val v1] 264,.row v1 (lB a1) 1 5] (fun x=>(match res with | .inl res=>.val (vw v1 (res.1:Int).toNat (res.2:Int).toNat 1) | .inr res=>.sl 1 (lB res))) (fun x=>(match res with | .inl res=>[.var b0 [.val v1] 264,.row v1 (lB a1) 1 5] | .inr res=>[.var b0 [.val v1] 264,.row v1 (lB a1) 1 5])):=by
 unfold arena_Arena_part at h0;refine CallF.mkG (X:=X) rfl Tryz.func231 rfl rfl Tryz.ntmps231 rfl rfl ?_;refine aS ?_;refine TL.op1 (OpR.boxImm rfl rfl) rfl ?_;refine aA rfl rfl ?_;refine aN rfl ?_;refine T.seq ?_;refine aS ?_;iterate 2 refine aA rfl rfl ?_
 obtain⟨x1,hx1,h0⟩:=bS h0;refine TL.op1 (OpR.call [0,1] fn261 (arena_Arena_Right_c hx1) rfl rfl rfl (fun _=>rfl)) rfl ?_;refine aA rfl rfl ?_;refine aN rfl ?_;rcases ite_some h0 with ⟨c2,h0⟩|⟨c2,h0⟩;rotate_left
 ·refine T.condT rfl (not_f (eq_false_of_ne_true c2)) ?_;refine aS ?_;refine aA rfl rfl ?_;refine aN rfl ?_;refine T.ret ?_;obtain rfl:=osi h0;exact PostG.retP (ks:=[0,1]) (Gst.trans (Gst.only [4] rfl) (Gst.denil (ReS.cons (Re.base .nil) ReS.nil) (ReO.var (ReL.cons Re.refl ReL.nil) (ReO.same ReO.nil)))) undef (cT rfl ResL.nil) rfl rfl rfl rfl
 refine T.condF rfl (not_t (c2)) ?_;refine aK rfl ?_;refine T.seq ?_;obtain⟨x4,hx4,h0⟩:=bS h0;refine T.drawQ drawsX [dP b0,dP b0,dP b0,.val v1,.nod [dN a0.fAt,dN a0.fN],dN a0.fAt,.nod [dN a0.fAt,dN a0.fN],dN a0.fAt,.nod [dN a0.fN],dN a0.fN,dN (w64 (a0.fAt+a0.fN)),.val (vw v1 (a0.fAt:Int).toNat (w64 (a0.fAt+a0.fN):Int).toNat 1),.val (vw v1 (a0.fAt:Int).toNat (w64 (a0.fAt+a0.fN):Int).toNat 1)] [4] (by decide +kernel) rfl ?_ rfl ?_;rotate_left
 ·show T X _ _ _;refine T.ret ?_;obtain rfl:=osi h0;exact rO [0,1] [4] rfl undef (cT rfl ResL.nil) rfl rfl rfl rfl
 iterate 3 refine aB rfl rfl rfl ?_
 refine OpsQ.yes (Want.plain rfl) rfl (OpR.loadPtr 0 rfl rfl rfl rfl) ?_;iterate 7 refine aB rfl rfl rfl ?_
 refine OpsQ.yes (Want.plain rfl) rfl (OpR.sliceRowM byteD 1 hx4 rfl rfl rfl rfl rfl rfl (BdM.some rfl) (BdM.some rfl)) ?_;refine aB rfl rfl rfl ?_;exact OpsQ.nil
theorem arena_Arena_part_cx1 {a0:arena_Span} {a1:List UInt8} {b0:Nat} {v1:Value} {res:Int × Int} (h0:arena_Arena_part a0 a1=some (Sum.inl res)):CallF X 231 [dP b0,.agg [dN a0.fAt,dN a0.fN]] [.var b0 [.val v1] 264,.row v1 (lB a1) 1 5] (fun x=>.val (vw v1 (res.1:Int).toNat (res.2:Int).toNat 1)) (fun x=>[.var b0 [.val v1] 264,.row v1 (lB a1) 1 5]):=arena_Arena_part_c h0
theorem arena_Arena_part_cx2 {a0:arena_Span} {a1:List UInt8} {b0:Nat} {v1:Value} {res:(List UInt8)} (h0:arena_Arena_part a0 a1=some (Sum.inr res)):CallF X 231 [dP b0,.agg [dN a0.fAt,dN a0.fN]] [.var b0 [.val v1] 264,.row v1 (lB a1) 1 5] (fun x=>.sl 1 (lB res)) (fun x=>[.var b0 [.val v1] 264,.row v1 (lB a1) 1 5]):=arena_Arena_part_c h0
noncomputable def arena_Arena_Bytes (a0:arena_Span) (a1:List UInt8):Option (List UInt8):=
 bnd (arena_Arena_part a0 a1) fun x1=>
 match x1 with
| .inl x1=>
 bnd (cut a1 x1.1 x1.2) fun x2=>
 bnd (mkz 1 (x2.length:Int) (0:UInt8)) fun x3=>
 some (over x3 x2)
| .inr x1=>
 bnd (mkz 1 (x1.length:Int) (0:UInt8)) fun x5=>
 some (over x5 x1)
theorem arena_Arena_Bytes_c {a0:arena_Span} {a1:List UInt8} {b0:Nat} {v1:Value} {res:(List UInt8)} (h0:arena_Arena_Bytes a0 a1=some res):CallF X 201 [dP b0,.agg [dN a0.fAt,dN a0.fN]] [.var b0 [.val v1] 264,.row v1 (lB a1) 1 5] (fun x=>.sl 1 (lB res)) (fun x=>[.var b0 [.val v1] 264,.row v1 (lB a1) 1 5]):=by
 unfold arena_Arena_Bytes at h0;refine CallF.mkG (X:=X) rfl Tryz.func201 rfl rfl Tryz.ntmps201 rfl rfl ?_;refine aS ?_;refine TL.op1 (OpR.boxImm rfl rfl) rfl ?_;refine aA rfl rfl ?_;refine aN rfl ?_;refine aS ?_;iterate 2 refine aA rfl rfl ?_
 obtain⟨x1,hx1,h0⟩:=bS h0;rcases x1 with x1|x1;rotate_left
 ·dsimp only at h0;refine TL.op1 (OpR.call [0,1] fn231 (arena_Arena_part_cx2 hx1) rfl rfl rfl (fun _=>rfl)) rfl ?_;refine aA rfl rfl ?_;refine aN rfl ?_;refine aS ?_;refine aA rfl rfl ?_;refine TL.op1 (OpR.cast (OpR.pure rfl) (intE (lenM _ _))) rfl ?_;obtain⟨x5,hx5,h0⟩:=bS h0;refine TL.op (OpR.makeM byteD hx5 rfl rfl rfl rfl rfl rfl rfl rfl rfl rfl rfl (fun _=>rfl)) rfl (fun v6=>?_);refine aA rfl rfl ?_;refine aN rfl ?_;refine aS ?_;iterate 2 refine aA rfl rfl ?_
  refine TL.op1 (OpR.copyM byteD 2 rfl rfl rfl rfl rfl rfl rfl rfl) rfl ?_;refine aN rfl ?_;refine aS ?_;iterate 2 refine aA rfl rfl ?_
  refine aN rfl ?_;refine T.ret ?_;obtain rfl:=osi h0;exact PostG.retP (ks:=[0,1]) (Gst.trans (Gst.only [4] rfl) (Gst.trans (Gst.freezeRow 2 rfl rfl (ReS.cons (Re.base .all) ReS.nil) (ReO.same (ReO.same (ReO.same ReO.nil)))) (Gst.pick [0,1] rfl rfl))) undef (cT rfl ResL.nil) rfl rfl rfl rfl
 dsimp only at h0;refine TL.op1 (OpR.call [0,1] fn231 (arena_Arena_part_cx1 hx1) rfl rfl rfl (fun _=>rfl)) rfl ?_;refine aA rfl rfl ?_;refine aN rfl ?_;refine aS ?_;refine aA rfl rfl ?_;obtain⟨x2,hx2,h0⟩:=bS h0;refine TL.op1 (OpR.lenF byteD (Src.viewM byteD 1 hx2 rfl rfl) rfl rfl) rfl ?_;obtain⟨x3,hx3,h0⟩:=bS h0;refine TL.op (OpR.makeM byteD hx3 rfl rfl rfl rfl rfl rfl rfl rfl rfl rfl rfl (fun _=>rfl)) rfl (fun v4=>?_);refine aA rfl rfl ?_;refine aN rfl ?_;refine aS ?_;iterate 2 refine aA rfl rfl ?_
 refine TL.op1 (OpR.copyF byteD 2 (Src.viewM byteD 1 hx2 rfl rfl) rfl rfl rfl rfl rfl rfl rfl) rfl ?_;refine aN rfl ?_;refine aS ?_;iterate 2 refine aA rfl rfl ?_
 refine aN rfl ?_;refine T.ret ?_;obtain rfl:=osi h0;exact PostG.retP (ks:=[0,1]) (Gst.trans (Gst.only [4] rfl) (Gst.trans (Gst.freezeRow 2 rfl rfl (ReS.cons (Re.base .all) ReS.nil) (ReO.same (ReO.same (ReO.same ReO.nil)))) (Gst.pick [0,1] rfl rfl))) undef (cT rfl ResL.nil) rfl rfl rfl rfl
noncomputable def piece_Text_Flat.l1 (a0:piece_Text) (a1:List UInt8) (s4:Int × (List UInt8)):Option (Lp (Int × (List UInt8)) (List UInt8)):=
 if s4.1<(a0.fL.length:Int) then
 bnd (idx a0.fL s4.1) fun x13=>
 bnd (arena_Arena_Bytes x13 a1) fun x15=>
 bnd (app 1 s4.2 x15) fun x16=>
 some (Lp.next (w64 (s4.1+1),x16))
else
 some (Lp.done s4.2)
noncomputable def piece_Text_Flat (a0:piece_Text) (a1:List UInt8):Option (List UInt8):=
 bnd (loop (piece_Text_Flat.l1 a0 a1) (0,[]):Option (List UInt8)) fun t1=>
 some t1
theorem piece_Text_Flat_c {a0:piece_Text} {a1:List UInt8} {b0:Nat} {v1:Value} {res:(List UInt8)} (h0:piece_Text_Flat a0 a1=some res):CallF X 183 [.agg [.sl 2 (List.map e_arena_Span a0.fL),dN a0.fN],dP b0] [.var b0 [.val v1] 264,.row v1 (lB a1) 1 5] (fun x=>.sl 1 (lB res)) (fun x=>[.var b0 [.val v1] 264,.row v1 (lB a1) 1 5]):=by
 unfold piece_Text_Flat at h0;refine CallF.mkG (X:=X) rfl Tryz.func183 rfl rfl Tryz.ntmps183 rfl rfl ?_;refine aS ?_;refine TL.op1 (OpR.boxImm rfl rfl) rfl ?_;refine aA rfl rfl ?_;refine aN rfl ?_;refine aS ?_;refine aA rfl rfl ?_;refine aN rfl ?_;refine T.seq ?_;refine aS ?_;iterate 2 refine aA rfl rfl ?_
 refine TL.op1 (OpR.cast (OpR.pure rfl) (intE (lenM _ _))) rfl ?_;refine aA rfl rfl ?_;refine aN rfl ?_;obtain⟨t1,ht1,h0⟩:=bS h0;refine T.cutC (fun S'=>∃ y2:Value,S'=⟨[(5,.val y2),(4,.val (.slice none 0 0))],[.var b0 [.val v1] 264,.row v1 (lB a1) 1 5,.row y2 (lB t1) 1 5],22⟩) (fun _ h=>h) ?_ ?_;rotate_left
 ·rintro _ ⟨y2,rfl⟩;show T X _ _ _;refine aS ?_;iterate 2 refine aA rfl rfl ?_
  refine aN rfl ?_;refine T.ret ?_;obtain rfl:=osi h0;exact PostG.retP (ks:=[0,1]) (Gst.trans (Gst.only [4] rfl) (Gst.trans (Gst.freezeRow 2 rfl rfl (ReS.cons (Re.base .all) ReS.nil) (ReO.same (ReO.same (ReO.same ReO.nil)))) (Gst.pick [0,1] rfl rfl))) undef (cT rfl ResL.nil) rfl rfl rfl rfl
 refine T.block ?_;obtain⟨n5,n10⟩:=loop_some ht1;refine T.loop (fun n S'=>∃ S'',Gst S' S''∧∃ y3:Value,∃ s4:Int × (List UInt8),S''=⟨[(11,(dN s4.1)),(10,(dN (a0.fL.length:Int))),(9,.sl 2 (List.map e_arena_Span a0.fL)),(5,.val y3),(4,.val (.slice none 0 0)),(1,(dP b0))],[.var b0 [.val v1] 264,.row v1 (lB a1) 1 5,.row y3 (lB s4.2) 1 5],22⟩∧iter (piece_Text_Flat.l1 a0 a1) n s4=some t1) n5 ?_ ?_
 ·exact⟨_,Gst.trans (Gst.only [1,4,5,9,10,11] rfl) (Gst.nilRow (ow:=[.var b0 [.val v1] 264,.row v1 (lB a1) 1 5]) 1 5 rfl),(.slice none 0 0),(0,[]),rfl,n10⟩
 rintro n5 _ ⟨_,g,y3,s4,rfl,i9⟩;refine T.ghost g ?_;obtain⟨m6,q7,rfl,q8,i9⟩:=iter_succ i9;unfold piece_Text_Flat.l1 at q8;refine aS ?_;refine aA rfl rfl ?_;refine aN rfl ?_;refine T.seq ?_;rcases ite_some q8 with ⟨c12,q8⟩|⟨c12,q8⟩;rotate_left
 ·refine T.condF rfl (eF c12) ?_;refine T.exit ?_;obtain rfl:=osi q8;obtain rfl:_=_:=i9;exact⟨_,Gst.only [4,5] rfl,y3,rfl⟩
 refine T.condT rfl (eT c12) ?_;refine aK rfl ?_;refine T.seq ?_;refine T.block ?_;refine aS ?_;obtain⟨x13,hx13,q8⟩:=bS q8;refine TL.op1 (OpR.indexM e_arena_Span hx13 rfl rfl rfl rfl rfl) rfl ?_;refine aA rfl rfl ?_;refine TL.op (OpR.alloc rfl rfl (fun _=>rfl)) rfl (fun p14=>?_);refine TL.op0 (OpR.store 3 rfl rfl rfl rfl rfl rfl rfl rfl) ?_;refine aN rfl ?_;refine T.region ?_;iterate 2 refine aA rfl rfl ?_
 refine TL.op1 (OpR.loadPtr 3 rfl rfl rfl rfl) rfl ?_;obtain⟨x15,hx15,q8⟩:=bS q8;refine TL.op1 (OpR.call [0,1] fn201 (arena_Arena_Bytes_c hx15) rfl rfl rfl (fun _=>rfl)) rfl ?_;obtain⟨x16,hx16,q8⟩:=bS q8;refine TL.op (OpR.appendM (m:=x15) byteD 2 hx16 rfl rfl rfl rfl rfl rfl rfl rfl rfl (fun _=>rfl)) rfl (fun v17=>?_);refine aA rfl rfl ?_;refine aN rfl ?_;refine T.region ?_;iterate 2 refine aA rfl rfl ?_
 refine TL.nil ?_;obtain rfl:=osi q8;exact⟨m6,Nat.lt_succ_self _,_,gP [1,4,5,9,10,11] [0,1,2] rfl rfl rfl,v17,(w64 (s4.1+1),x16),rfl,i9⟩
noncomputable def cell_Cell_Bytes (a0:cell_Cell) (a1:List UInt8):Option (List UInt8):=
 bnd (piece_Text_Flat a0.fText a1) fun x1=>
 some x1
theorem cell_Cell_Bytes_c {a0:cell_Cell} {a1:List UInt8} {b0:Nat} {v1:Value} {res:(List UInt8)} (h0:cell_Cell_Bytes a0 a1=some res):CallF X 113 [.agg [.sl 2 (List.map e_arena_Span a0.fText.fL),dN a0.fText.fN,dN a0.fRaw.fAt,dN a0.fRaw.fN,dT a0.fKept],dP b0] [.var b0 [.val v1] 264,.row v1 (lB a1) 1 5] (fun x=>.sl 1 (lB res)) (fun x=>[.var b0 [.val v1] 264,.row v1 (lB a1) 1 5]):=by
 unfold cell_Cell_Bytes at h0;refine CallF.mkG (X:=X) rfl Tryz.func113 rfl rfl Tryz.ntmps113 rfl rfl ?_;refine aS ?_;refine TL.op1 (OpR.boxImm rfl rfl) rfl ?_;refine aA rfl rfl ?_;refine aN rfl ?_;refine aS ?_;iterate 3 refine aA rfl rfl ?_
 obtain⟨x1,hx1,h0⟩:=bS h0;refine TL.op1 (OpR.call [0,1] fn183 (piece_Text_Flat_c hx1) rfl rfl rfl (fun _=>rfl)) rfl ?_;refine aA rfl rfl ?_;refine aN rfl ?_;refine T.ret ?_;obtain rfl:=osi h0;exact rO [0,1] [4] rfl undef (cT rfl ResL.nil) rfl rfl rfl rfl
noncomputable def find_places (a0:List UInt8) (a1:List UInt8):Option ((List UInt8) × (List UInt8)):=
 some (a1,a0)
theorem find_places_c {a0:List UInt8} {a1:List UInt8} {res:(List UInt8) × (List UInt8)} (h0:find_places a0 a1=some res):CallF X 220 [.sl 1 (lB a0),.sl 1 (lB a1)] [] (fun x=>.fn (.func 245) [] [dP (blk (vn x 0)),dP (blk (vn x 1))]) (fun x=>[.var (blk (vn x 0)) [.sl 1 (lB res.1)] 122,.var (blk (vn x 1)) [.sl 1 (lB res.2)] 122]):=by
 unfold find_places at h0;refine CallF.mkG (X:=X) rfl Tryz.func220 rfl rfl Tryz.ntmps220 rfl rfl ?_;refine aS ?_;refine TL.op (OpR.boxVar rfl rfl (fun _=>rfl)) rfl (fun p1=>?_);refine TL.op (OpR.boxVar rfl rfl (fun _=>rfl)) rfl (fun p2=>?_);refine aA rfl rfl ?_;refine aN rfl ?_;refine aS ?_;iterate 2 refine aA rfl rfl ?_
 refine aN rfl ?_;refine T.ret ?_;obtain rfl:=osi h0;exact rP [0,1] [4] [1,0] rfl rfl rfl (.tuple #[p2,p1]) (cT rfl ResL.nil) rfl rfl rfl rfl
noncomputable def find_table.l1 (a0:List UInt8) (s4:Int × Int × (List Int)) (s14:Int):Option (Lp Int Int):=
 bnd (if s14>0 then
 bnd (idx a0 s4.2.1) fun x25=>
 bnd (idx a0 s14) fun x26=>
 some (!((x25.toNat:Int)==(x26.toNat:Int)))
else
 some false:Option Bool) fun t22=>
 if t22=true then
 bnd (idx s4.2.2 s14) fun x28=>
 some (Lp.next x28)
else
 some (Lp.done s14)
noncomputable def find_table.l2 (a0:List UInt8) (s4:Int × Int × (List Int)):Option (Lp (Int × Int × (List Int)) (List Int)):=
 if s4.2.1<(a0.length:Int) then
 bnd (loop (find_table.l1 a0 s4) s4.1:Option Int) fun t13=>
 bnd (idx a0 s4.2.1) fun x30=>
 bnd (idx a0 t13) fun x31=>
 bnd (if (x30.toNat:Int)=(x31.toNat:Int) then
 some (w64 (t13+1))
else
 some t13:Option Int) fun t32=>
 bnd (idx s4.2.2 (w64 (s4.2.1+1))) fun x34=>
 some (Lp.next (t32,w64 (s4.2.1+1),(s4.2.2.set (w64 (s4.2.1+1)).toNat t32)))
else
 some (Lp.done s4.2.2)
noncomputable def find_table (a0:List UInt8):Option (List Int):=
 bnd (mkz 8 (w64 ((a0.length:Int)+1)) (0:Int)) fun x1=>
 bnd (loop (find_table.l2 a0) (0,1,x1):Option (List Int)) fun t3=>
 some t3
theorem find_table_c {a0:List UInt8} {res:(List Int)} (h0:find_table a0=some res):CallF X 246 [.sl 1 (lB a0)] [] (fun x=>.sl 1 (List.map (eI .i64) res)) (fun x=>[]):=by
 unfold find_table at h0;refine CallF.mkG (X:=X) rfl Tryz.func246 rfl rfl Tryz.ntmps246 rfl rfl ?_;refine aS ?_;refine aA rfl rfl ?_;refine aN rfl ?_;refine aS ?_;refine aA rfl rfl ?_;refine TL.op1 (OpR.cast (OpR.pure rfl) (intE (lenM _ _))) rfl ?_;refine aA rfl rfl ?_;obtain⟨x1,hx1,h0⟩:=bS h0;refine TL.op (OpR.makeM (eI .i64) hx1 rfl rfl rfl rfl rfl rfl rfl rfl rfl rfl rfl (fun _=>rfl)) rfl (fun v2=>?_);refine aA rfl rfl ?_;refine aN rfl ?_;refine aS ?_;refine aA rfl rfl ?_;refine aN rfl ?_;refine T.seq ?_;refine aS ?_;refine aA rfl rfl ?_;refine aN rfl ?_;obtain⟨t3,ht3,h0⟩:=bS h0;refine T.cutC (fun S'=>S'=⟨[(3,.val v2),(2,.val (.slice none 0 0))],[.row v2 (List.map (eI .i64) t3) 1 3],50⟩) (fun _ h=>h) ?_ ?_;rotate_left
 ·rintro _ rfl;show T X _ _ _;refine aS ?_;iterate 2 refine aA rfl rfl ?_
  refine aN rfl ?_;refine T.ret ?_;obtain rfl:=osi h0;exact PostG.retP (ks:=[]) (Gst.trans (Gst.only [2] rfl) (Gst.trans (Gst.freezeRow 0 rfl rfl (ReS.cons (Re.base .all) ReS.nil) (ReO.same ReO.nil)) (Gst.pick [] rfl rfl))) undef (cT rfl ResL.nil) rfl rfl rfl rfl
 refine T.block ?_;obtain⟨n5,n10⟩:=loop_some ht3;refine T.loop (fun n S'=>∃ S'',Gst S' S''∧∃ s4:Int × Int × (List Int),S''=⟨[(5,(dN s4.2.1)),(4,(dN s4.1)),(3,.val v2),(2,.val (.slice none 0 0)),(0,.sl 1 (lB a0))],[.row v2 (List.map (eI .i64) s4.2.2) 1 3],50⟩∧iter (find_table.l2 a0) n s4=some t3) n5 ?_ ?_
 ·exact⟨_,Gst.only [0,2,3,4,5] rfl,(0,1,x1),rfl,n10⟩
 rintro n5 _ ⟨_,g,s4,rfl,i9⟩;refine T.ghost g ?_;obtain⟨m6,q7,rfl,q8,i9⟩:=iter_succ i9;unfold find_table.l2 at q8;refine T.seq ?_;refine aS ?_;iterate 2 refine aA rfl rfl ?_
 refine TL.op1 (OpR.cast (OpR.pure rfl) (intE (lenM _ _))) rfl ?_;refine aA rfl rfl ?_;refine aN rfl ?_;rcases ite_some q8 with ⟨c12,q8⟩|⟨c12,q8⟩;rotate_left
 ·refine T.condF rfl (eF c12) ?_;refine T.exit ?_;obtain rfl:=osi q8;obtain rfl:_=_:=i9;exact⟨_,Gst.only [2,3] rfl,rfl⟩
 refine T.condT rfl (eT c12) ?_;refine aK rfl ?_;refine T.seq ?_;refine T.block ?_;refine T.seq ?_;obtain⟨t13,ht13,q8⟩:=bS q8;refine T.cutC (fun S'=>S'=⟨[(5,(dN s4.2.1)),(4,(dN t13)),(3,.val v2),(2,.val (.slice none 0 0)),(0,.sl 1 (lB a0))],[.row v2 (List.map (eI .i64) s4.2.2) 1 3],50⟩) (fun _ h=>h) ?_ ?_;rotate_left
 ·rintro _ rfl;show T X _ _ _;refine T.seq ?_;refine T.seq ?_;obtain⟨x30,hx30,q8⟩:=bS q8;obtain⟨x31,hx31,q8⟩:=bS q8;refine T.drawQ drawsX [.sl 1 (lB a0),dN s4.2.1,.nod [.val (.int .u8 (x30.toNat:Int))],.val (.int .u8 (x30.toNat:Int)),.sl 1 (lB a0),dN t13,.nod [.val (.int .u8 (x31.toNat:Int))],.val (.int .u8 (x31.toNat:Int)),dT ((x30.toNat:Int)==(x31.toNat:Int))] [0,2,3,4,5,41] (by decide +kernel) rfl ?_ rfl ?_
  ·iterate 2 refine aB rfl rfl rfl ?_
   refine OpsQ.yes (Want.plain rfl) rfl (OpR.indexM byteD hx30 rfl rfl rfl rfl rfl) ?_;iterate 3 refine aB rfl rfl rfl ?_
   refine OpsQ.yes (Want.plain rfl) rfl (OpR.indexM byteD hx31 rfl rfl rfl rfl rfl) ?_;iterate 2 refine aB rfl rfl rfl ?_
   exact OpsQ.nil
  show T X _ _ _;obtain⟨t32,ht32,q8⟩:=bS q8;refine T.cutC (fun S'=>S'=⟨[(5,(dN s4.2.1)),(4,(dN t32)),(3,.val v2),(2,.val (.slice none 0 0)),(0,.sl 1 (lB a0))],[.row v2 (List.map (eI .i64) s4.2.2) 1 3],50⟩) (fun _ h=>h) ?_ ?_
  ·rcases ite_some ht32 with ⟨c33,ht32⟩|⟨c33,ht32⟩;rotate_left
   ·refine T.condF rfl (beq_eq_false_iff_ne.2 c33) ?_;refine T.skip ?_;obtain rfl:=osi ht32;exact⟨_,Gst.only [0,2,3,4,5] rfl,rfl⟩
   refine T.condT rfl (beq_iff_eq.2 c33) ?_;refine T.region ?_;iterate 3 refine aA rfl rfl ?_
   refine TL.nil ?_;obtain rfl:=osi ht32;exact⟨_,Gst.only [0,2,3,4,5] rfl,rfl⟩
  rintro _ rfl;show T X _ _ _;refine T.region ?_;iterate 4 refine aA rfl rfl ?_
  obtain⟨x34,hx34,q8⟩:=bS q8;refine TL.op1 (OpR.rowIndexM (eI .i64) 0 hx34 rfl rfl rfl rfl rfl rfl rfl) rfl ?_;refine TL.op0 (OpR.rowStore0M (j:=w64 (s4.2.1+1)) (eI .i64) t32 0 hx34 rfl rfl rfl rfl rfl rfl rfl rfl rfl) ?_;refine aN rfl ?_;refine T.region ?_;iterate 3 refine aA rfl rfl ?_
  refine TL.nil ?_;obtain rfl:=osi q8;exact⟨m6,Nat.lt_succ_self _,_,Gst.only [0,2,3,4,5] rfl,(t32,w64 (s4.2.1+1),(s4.2.2.set (w64 (s4.2.1+1)).toNat t32)),rfl,i9⟩
 refine T.block ?_;obtain⟨n15,n20⟩:=loop_some ht13;refine T.loop (fun n S'=>∃ S'',Gst S' S''∧∃ s14:Int,S''=⟨[(5,(dN s4.2.1)),(4,(dN s14)),(3,.val v2),(2,.val (.slice none 0 0)),(0,.sl 1 (lB a0))],[.row v2 (List.map (eI .i64) s4.2.2) 1 3],50⟩∧iter (find_table.l1 a0 s4) n s14=some t13) n15 ?_ ?_
 ·exact⟨_,Gst.only [0,2,3,4,5] rfl,s4.1,rfl,n20⟩
 rintro n15 _ ⟨_,g,s14,rfl,i19⟩;refine T.ghost g ?_;obtain⟨m16,q17,rfl,q18,i19⟩:=iter_succ i19;unfold find_table.l1 at q18;refine T.seq ?_;refine T.seq ?_;obtain⟨t22,ht22,q18⟩:=bS q18;refine T.cutC (fun S'=>S'=⟨[(28,(dT t22)),(5,(dN s4.2.1)),(4,(dN s14)),(3,.val v2),(2,.val (.slice none 0 0)),(0,.sl 1 (lB a0))],[.row v2 (List.map (eI .i64) s4.2.2) 1 3],50⟩) (fun _ h=>h) ?_ ?_;rotate_left
 ·rintro _ rfl;show T X _ _ _;rcases ite_some q18 with ⟨c27,q18⟩|⟨c27,q18⟩;rotate_left
  ·refine T.condF rfl (eq_false_of_ne_true c27) ?_;refine T.exit ?_;obtain rfl:=osi q18;obtain rfl:_=_:=i19;exact⟨_,Gst.only [0,2,3,4,5] rfl,rfl⟩
  refine T.condT rfl (c27) ?_;refine aK rfl ?_;refine T.block ?_;refine T.region ?_;iterate 2 refine aA rfl rfl ?_
  obtain⟨x28,hx28,q18⟩:=bS q18;refine TL.op1 (OpR.rowIndexM (eI .i64) 0 hx28 rfl rfl rfl rfl rfl rfl rfl) rfl ?_;refine TL.op1 (OpR.rowLoad0M (j:=s14) (eI .i64) 0 hx28 rfl rfl rfl rfl) rfl ?_;refine aA rfl rfl ?_;refine TL.nil ?_;obtain rfl:=osi q18;exact⟨m16,Nat.lt_succ_self _,_,Gst.only [0,2,3,4,5] rfl,x28,rfl,i19⟩
 rcases ite_some ht22 with ⟨c24,ht22⟩|⟨c24,ht22⟩;rotate_left
 ·refine T.drawQ drawsX [dN s14,dT (decide (s14>0)),dT (decide (s14>0)),.tup [],.tup [],.tup [],.tup [],.tup [],.tup [],.tup [],.tup [],.tup [],dT false] [0,2,3,4,5,28] (by decide +kernel) rfl ?_ rfl ?_;rotate_left
  ·obtain rfl:=osi ht22;exact⟨_,Gst.only [0,2,3,4,5,28] rfl,rfl⟩
  iterate 3 refine aB rfl rfl rfl ?_
  refine OpsQ.no (Want.bool rfl rfl rfl rfl (by rw[(eF c24)]; rfl)) rfl ?_;refine OpsQ.no (Want.bool rfl rfl rfl rfl (by rw[(eF c24)]; rfl)) rfl ?_;refine OpsQ.no (Want.bool rfl rfl rfl rfl (by rw[(eF c24)]; rfl)) rfl ?_;refine OpsQ.no (Want.bool rfl rfl rfl rfl (by rw[(eF c24)]; rfl)) rfl ?_;refine OpsQ.no (Want.bool rfl rfl rfl rfl (by rw[(eF c24)]; rfl)) rfl ?_;refine OpsQ.no (Want.bool rfl rfl rfl rfl (by rw[(eF c24)]; rfl)) rfl ?_;refine OpsQ.no (Want.bool rfl rfl rfl rfl (by rw[(eF c24)]; rfl)) rfl ?_;refine OpsQ.no (Want.bool rfl rfl rfl rfl (by rw[(eF c24)]; rfl)) rfl ?_;refine OpsQ.no (Want.bool rfl rfl rfl rfl (by rw[(eF c24)]; rfl)) rfl ?_;refine OpsQ.yes (Want.plain rfl) rfl (OpR.pickF rfl (eF c24) rfl) ?_;exact OpsQ.nil
 obtain⟨x25,hx25,ht22⟩:=bS ht22;obtain⟨x26,hx26,ht22⟩:=bS ht22;refine T.drawQ drawsX [dN s14,dT (decide (s14>0)),dT (decide (s14>0)),.sl 1 (lB a0),dN s4.2.1,.nod [.val (.int .u8 (x25.toNat:Int))],.val (.int .u8 (x25.toNat:Int)),.sl 1 (lB a0),dN s14,.nod [.val (.int .u8 (x26.toNat:Int))],.val (.int .u8 (x26.toNat:Int)),dT (!((x25.toNat:Int)==(x26.toNat:Int))),dT (!((x25.toNat:Int)==(x26.toNat:Int)))] [0,2,3,4,5,28] (by decide +kernel) rfl ?_ rfl ?_;rotate_left
 ·obtain rfl:=osi ht22;exact⟨_,Gst.only [0,2,3,4,5,28] rfl,rfl⟩
 iterate 3 refine aB rfl rfl rfl ?_
 refine OpsQ.yes (Want.bool rfl rfl rfl rfl (by rw[(eT c24)]; rfl)) rfl (OpR.pure rfl) ?_;refine OpsQ.yes (Want.bool rfl rfl rfl rfl (by rw[(eT c24)]; rfl)) rfl (OpR.pure rfl) ?_;refine OpsQ.yes (Want.bool rfl rfl rfl rfl (by rw[(eT c24)]; rfl)) rfl (OpR.indexM byteD hx25 rfl rfl rfl rfl rfl) ?_;refine OpsQ.yes (Want.bool rfl rfl rfl rfl (by rw[(eT c24)]; rfl)) rfl (OpR.pure rfl) ?_;refine OpsQ.yes (Want.bool rfl rfl rfl rfl (by rw[(eT c24)]; rfl)) rfl (OpR.pure rfl) ?_;refine OpsQ.yes (Want.bool rfl rfl rfl rfl (by rw[(eT c24)]; rfl)) rfl (OpR.pure rfl) ?_;refine OpsQ.yes (Want.bool rfl rfl rfl rfl (by rw[(eT c24)]; rfl)) rfl (OpR.indexM byteD hx26 rfl rfl rfl rfl rfl) ?_;refine OpsQ.yes (Want.bool rfl rfl rfl rfl (by rw[(eT c24)]; rfl)) rfl (OpR.pure rfl) ?_;refine OpsQ.yes (Want.bool rfl rfl rfl rfl (by rw[(eT c24)]; rfl)) rfl (OpR.pure rfl) ?_;refine OpsQ.yes (Want.plain rfl) rfl (OpR.pickT rfl (eT c24) rfl) ?_;exact OpsQ.nil
noncomputable def find_First_r0 (a0:Int) (a1:Int) (a2:Int):Option (Int ⊕ Unit):=
 if a0≥a1 then
 some (Sum.inl a0)
else
 some (Sum.inr ())
theorem find_First_r0_c {a0:Int} {a1:Int} {a2:Int} {b0:Nat} {b1:Nat} {res:Int ⊕ Unit} (h0:find_First_r0 a0 a1 a2=some res):RoundF X b0 [dN a0] [.lp b0 .ready none [11] rfA176_0 rfB176_0 [(6,(dP b1)),(5,.nod [dN a1])] 16,.var b1 [dN a2] 3] (fun x=>(match res with | .inl res=>(dT false) | .inr res=>(dT true))) (fun x=>(match res with | .inl res=>[.lp b0 .done (some (.ret)) [11] rfA176_0 rfB176_0 [(6,(dP b1)),(5,.nod [dN a1])] 16,.var b1 [dN res] 3] | .inr res=>[.lp b0 .ready none [11] rfA176_0 rfB176_0 [(6,(dP b1)),(5,.nod [dN a1])] 16,.var b1 [dN a2] 3])):=by
 unfold find_First_r0 at h0;refine RoundF.mk (X:=X) rfl rfl rfl ?_;refine T.region ?_;refine aA rfl rfl ?_;refine TL.nil ?_;refine RoundA.mk ?_;refine T.block ?_;refine aS ?_;iterate 3 refine aA rfl rfl ?_
 refine TL.nil ?_;show T (X.inR b0) _ _ _;rcases ite_some h0 with ⟨c31,h0⟩|⟨c31,h0⟩;rotate_left
 ·refine T.condF rfl (eF c31) ?_;refine T.skip ?_;obtain rfl:=osi h0;exact RoundG.mk (ks:=[0,1]) (Gst.only [] rfl) undef rfl rfl rfl rfl rfl
 refine T.condT rfl (eT c31) ?_;refine aS ?_;refine aA rfl rfl ?_;refine TL.op0 (OpR.store 1 rfl rfl rfl rfl rfl rfl rfl rfl) ?_;refine TL.nil ?_;show T (X.inR b0) _ _ _;refine T.ret ?_;obtain rfl:=osi h0;exact RoundG.mk (ks:=[0,1]) (Gst.only [] rfl) undef rfl rfl rfl rfl rfl
theorem find_First_r0_cx1 {a0:Int} {a1:Int} {a2:Int} {b0:Nat} {b1:Nat} {res:Int} (h0:find_First_r0 a0 a1 a2=some (Sum.inl res)):RoundF X b0 [dN a0] [.lp b0 .ready none [11] rfA176_0 rfB176_0 [(6,(dP b1)),(5,.nod [dN a1])] 16,.var b1 [dN a2] 3] (fun x=>(dT false)) (fun x=>[.lp b0 .done (some (.ret)) [11] rfA176_0 rfB176_0 [(6,(dP b1)),(5,.nod [dN a1])] 16,.var b1 [dN res] 3]):=find_First_r0_c h0
theorem find_First_r0_cx2 {a0:Int} {a1:Int} {a2:Int} {b0:Nat} {b1:Nat} {res:Unit} (h0:find_First_r0 a0 a1 a2=some (Sum.inr res)):RoundF X b0 [dN a0] [.lp b0 .ready none [11] rfA176_0 rfB176_0 [(6,(dP b1)),(5,.nod [dN a1])] 16,.var b1 [dN a2] 3] (fun x=>(dT true)) (fun x=>[.lp b0 .ready none [11] rfA176_0 rfB176_0 [(6,(dP b1)),(5,.nod [dN a1])] 16,.var b1 [dN a2] 3]):=find_First_r0_c h0
noncomputable def find_places_1.l1 (a1:List UInt8) (x2:(List Int)) (x16:UInt8) (s18:Int):Option (Lp Int Int):=
 bnd (if s18>0 then
 if s18=(a1.length:Int) then
 some true
else
 bnd (idx a1 s18) fun x29=>
 some (!((x16.toNat:Int)==(x29.toNat:Int)))
else
 some false:Option Bool) fun t26=>
 if t26=true then
 bnd (idx x2 s18) fun x31=>
 some (Lp.next x31)
else
 some (Lp.done s18)
noncomputable def find_places_1.l2 (a0:Int) (a1:List UInt8) (a2:List UInt8) (a3:Int) (x2:(List Int)) (s5:Int × Int):Option (Lp (Int × Int) (Ex Unit (Unit ⊕ Int))):=
 if s5.2<(a2.length:Int) then
  bnd (bnd (idx a2 s5.2) fun x16=>
  bnd (loop (find_places_1.l1 a1 x2 x16) s5.1:Option Int) fun t17=>
  bnd (idx a1 t17) fun x32=>
  bnd (if (x16.toNat:Int)=(x32.toNat:Int) then
   some (w64 (t17+1))
  else
   some t17:Option Int) fun t33=>
  if t33=(a1.length:Int) then
   bnd (find_First_r0 (w64 ((w64 (s5.2+1))-t33)) a0 a3) fun x36=>
   match x36 with
   | .inl x36=>
    some (Ex.ret (Sum.inr x36))
   | .inr x36=>
    some (Ex.brk t33)
  else
   some (Ex.brk t33):Option (Ex Int (Unit ⊕ Int))) fun t14=>match t14 with
   | .brk u15=>
    some (Lp.next (u15,w64 (s5.2+1)))
   | .ret u15=>some (Lp.done (Ex.ret u15))
 else
  some (Lp.done (Ex.brk ()))
noncomputable def find_places_1 (a0:Int) (a1:List UInt8) (a2:List UInt8) (a3:Int):Option (Unit ⊕ Int):=
 if (a1.length:Int)=0 then
 some (Sum.inl ())
else
 bnd (find_table a1) fun x2=>
 bnd (loop (find_places_1.l2 a0 a1 a2 a3 x2) (0,0):Option (Ex Unit (Unit ⊕ Int))) fun t3=>match t3 with
| .brk u4=>
 some (Sum.inl ())
| .ret u4=>some u4
theorem find_places_1_c {a0:Int} {a1:List UInt8} {a2:List UInt8} {a3:Int} {b0:Nat} {b1:Nat} {b2:Nat} {b3:Nat} {res:Unit ⊕ Int} (h0:find_places_1 a0 a1 a2 a3=some res):CallF X 245 [.fn (.yield b0) [] [],dP b1,dP b2] [.lp b0 .ready none [11] rfA176_0 rfB176_0 [(6,(dP b3)),(5,.nod [dN a0])] 16,.var b1 [.sl 1 (lB a1)] 122,.var b2 [.sl 1 (lB a2)] 122,.var b3 [dN a3] 3] (fun x=>(match res with | .inl res=>.tup [] | .inr res=>.tup [])) (fun x=>(match res with | .inl res=>[.lp b0 .ready none [11] rfA176_0 rfB176_0 [(6,(dP b3)),(5,.nod [dN a0])] 16,.var b1 [.sl 1 (lB a1)] 122,.var b2 [.sl 1 (lB a2)] 122,.var b3 [dN a3] 3] | .inr res=>[.lp b0 .done (some (.ret)) [11] rfA176_0 rfB176_0 [(6,(dP b3)),(5,.nod [dN a0])] 16,.var b1 [.sl 1 (lB a1)] 122,.var b2 [.sl 1 (lB a2)] 122,.var b3 [dN res] 3])):=by
 unfold find_places_1 at h0;refine CallF.mkG (X:=X) rfl Tryz.func245 rfl rfl Tryz.ntmps245 rfl rfl ?_;refine T.seq ?_;refine aS ?_;refine TL.op1 (OpR.loadPtr 1 rfl rfl rfl rfl) rfl ?_;refine TL.op1 (OpR.cast (OpR.pure rfl) (intE (lenM _ _))) rfl ?_;refine aA rfl rfl ?_;refine aN rfl ?_;rcases ite_some h0 with ⟨c1,h0⟩|⟨c1,h0⟩
 ·refine T.condT rfl (beq_iff_eq.2 c1) ?_;refine T.ret ?_;obtain rfl:=osi h0;exact rO [0,1,2,3] [] rfl undef ResL.nil rfl rfl rfl rfl
 refine T.condF rfl (beq_eq_false_iff_ne.2 c1) ?_;refine aK rfl ?_;refine aS ?_;refine TL.op1 (OpR.loadPtr 1 rfl rfl rfl rfl) rfl ?_;obtain⟨x2,hx2,h0⟩:=bS h0;refine TL.op1 (OpR.call0 fn246 (find_table_c hx2) rfl) rfl ?_;refine aA rfl rfl ?_;refine aN rfl ?_;refine aS ?_;refine aA rfl rfl ?_;refine aN rfl ?_;refine aS ?_;refine TL.op1 (OpR.loadPtr 2 rfl rfl rfl rfl) rfl ?_;refine TL.op1 (OpR.cast (OpR.pure rfl) (intE (lenM _ _))) rfl ?_;refine aA rfl rfl ?_;refine aN rfl ?_;obtain⟨t3,ht3,h0⟩:=bS h0;refine T.cutN (fun S'=>∃ u4,t3=Ex.brk u4∧S'=⟨[],[.lp b0 .ready none [11] rfA176_0 rfB176_0 [(6,(dP b3)),(5,.nod [dN a0])] 16,.var b1 [.sl 1 (lB a1)] 122,.var b2 [.sl 1 (lB a2)] 122,.var b3 [dN a3] 3],62⟩) (fun _ _ g ⟨h,S',ds,g',r⟩=>⟨h,S',ds,Gst.trans g g',r⟩) ?_ ?_;rotate_left
 ·rintro _ ⟨u4,rfl,rfl⟩;obtain rfl:=osi h0;exact PostG.finP (ks:=[0,1,2,3]) (Gst.only [] rfl) undef ResL.nil rfl rfl rfl rfl
 refine T.block ?_;obtain⟨n6,n11⟩:=loop_some ht3;refine T.loop (fun n S'=>∃ S'',Gst S' S''∧∃ s5:Int × Int,S''=⟨[(15,(dN s5.2)),(14,(dN (a2.length:Int))),(13,.sl 1 (lB a2)),(5,(dN s5.1)),(4,.sl 1 (List.map (eI .i64) x2)),(1,(dP b1)),(0,.fn (.yield b0) [] [])],[.lp b0 .ready none [11] rfA176_0 rfB176_0 [(6,(dP b3)),(5,.nod [dN a0])] 16,.var b1 [.sl 1 (lB a1)] 122,.var b2 [.sl 1 (lB a2)] 122,.var b3 [dN a3] 3],62⟩∧iter (find_places_1.l2 a0 a1 a2 a3 x2) n s5=some t3) n6 ?_ ?_
 ·exact⟨_,Gst.only [0,1,4,5,13,14,15] rfl,(0,0),rfl,n11⟩
 rintro n6 _ ⟨_,g,s5,rfl,i10⟩;refine T.ghost g ?_;obtain⟨m7,q8,rfl,q9,i10⟩:=iter_succ i10;unfold find_places_1.l2 at q9;refine aS ?_;refine aA rfl rfl ?_;refine aN rfl ?_;refine T.seq ?_;rcases ite_some q9 with ⟨c13,q9⟩|⟨c13,q9⟩;rotate_left
 ·refine T.condF rfl (eF c13) ?_;refine T.exit ?_;obtain rfl:=osi q9;obtain rfl:_=_:=i10;exact⟨_,Gst.only [] rfl,_,rfl,rfl⟩
 refine T.condT rfl (eT c13) ?_;refine aK rfl ?_;refine T.seq ?_;obtain⟨t14,ht14,q9⟩:=bS q9;refine T.cutC (fun S'=>∃ u15,t14=Ex.brk u15∧S'=⟨[(15,(dN s5.2)),(14,(dN (a2.length:Int))),(13,.sl 1 (lB a2)),(5,(dN u15)),(4,.sl 1 (List.map (eI .i64) x2)),(1,(dP b1)),(0,.fn (.yield b0) [] [])],[.lp b0 .ready none [11] rfA176_0 rfB176_0 [(6,(dP b3)),(5,.nod [dN a0])] 16,.var b1 [.sl 1 (lB a1)] 122,.var b2 [.sl 1 (lB a2)] 122,.var b3 [dN a3] 3],62⟩) (fun _ h=>h) ?_ ?_;rotate_left
 ·rintro _ ⟨u15,rfl,rfl⟩;show T X _ _ _;refine T.region ?_;iterate 2 refine aA rfl rfl ?_
  refine TL.nil ?_;obtain rfl:=osi q9;exact⟨m7,Nat.lt_succ_self _,_,Gst.only [0,1,4,5,13,14,15] rfl,(u15,w64 (s5.2+1)),rfl,i10⟩
 refine T.block ?_;refine aS ?_;refine aA rfl rfl ?_;obtain⟨x16,hx16,ht14⟩:=bS ht14;refine TL.op1 (OpR.indexM byteD hx16 rfl rfl rfl rfl rfl) rfl ?_;iterate 3 refine aA rfl rfl ?_
 refine aN rfl ?_;refine T.seq ?_;obtain⟨t17,ht17,ht14⟩:=bS ht14;refine T.cutC (fun S'=>S'=⟨[(15,(dN s5.2)),(14,(dN (a2.length:Int))),(13,.sl 1 (lB a2)),(7,.val (.int .u8 (x16.toNat:Int))),(6,(dN s5.2)),(5,(dN t17)),(4,.sl 1 (List.map (eI .i64) x2)),(1,(dP b1)),(0,.fn (.yield b0) [] [])],[.lp b0 .ready none [11] rfA176_0 rfB176_0 [(6,(dP b3)),(5,.nod [dN a0])] 16,.var b1 [.sl 1 (lB a1)] 122,.var b2 [.sl 1 (lB a2)] 122,.var b3 [dN a3] 3],62⟩) (fun _ h=>h) ?_ ?_;rotate_left
 ·rintro _ rfl;show T X _ _ _;refine T.seq ?_;refine aS ?_;refine aA rfl rfl ?_;refine TL.op1 (OpR.loadPtr 1 rfl rfl rfl rfl) rfl ?_;refine aA rfl rfl ?_;obtain⟨x32,hx32,ht14⟩:=bS ht14;refine TL.op1 (OpR.indexM byteD hx32 rfl rfl rfl rfl rfl) rfl ?_;iterate 2 refine aA rfl rfl ?_
  refine aN rfl ?_;obtain⟨t33,ht33,ht14⟩:=bS ht14;refine T.cutC (fun S'=>S'=⟨[(15,(dN s5.2)),(14,(dN (a2.length:Int))),(13,.sl 1 (lB a2)),(6,(dN s5.2)),(5,(dN t33)),(4,.sl 1 (List.map (eI .i64) x2)),(1,(dP b1)),(0,.fn (.yield b0) [] [])],[.lp b0 .ready none [11] rfA176_0 rfB176_0 [(6,(dP b3)),(5,.nod [dN a0])] 16,.var b1 [.sl 1 (lB a1)] 122,.var b2 [.sl 1 (lB a2)] 122,.var b3 [dN a3] 3],62⟩) (fun _ h=>h) ?_ ?_
  ·rcases ite_some ht33 with ⟨c34,ht33⟩|⟨c34,ht33⟩;rotate_left
   ·refine T.condF rfl (beq_eq_false_iff_ne.2 c34) ?_;refine T.skip ?_;obtain rfl:=osi ht33;exact⟨_,Gst.only [0,1,4,5,6,13,14,15] rfl,rfl⟩
   refine T.condT rfl (beq_iff_eq.2 c34) ?_;refine T.region ?_;iterate 3 refine aA rfl rfl ?_
   refine TL.nil ?_;obtain rfl:=osi ht33;exact⟨_,Gst.only [0,1,4,5,6,13,14,15] rfl,rfl⟩
  rintro _ rfl;show T X _ _ _;refine aS ?_;refine aA rfl rfl ?_;refine TL.op1 (OpR.loadPtr 1 rfl rfl rfl rfl) rfl ?_;refine TL.op1 (OpR.cast (OpR.pure rfl) (intE (lenM _ _))) rfl ?_;iterate 2 refine aA rfl rfl ?_
  rcases ite_some ht14 with ⟨c35,ht14⟩|⟨c35,ht14⟩;rotate_left
  ·refine TL.off rfl rfl rfl rfl (beq_eq_false_iff_ne.2 c35) rfl rfl ?_;refine TL.off rfl rfl rfl rfl (beq_eq_false_iff_ne.2 c35) rfl rfl ?_;refine TL.off rfl rfl rfl rfl (beq_eq_false_iff_ne.2 c35) rfl rfl ?_;refine TL.off rfl rfl rfl rfl (beq_eq_false_iff_ne.2 c35) rfl rfl ?_;refine TL.off rfl rfl rfl rfl (beq_eq_false_iff_ne.2 c35) rfl rfl ?_;refine TL.off rfl rfl rfl rfl (beq_eq_false_iff_ne.2 c35) rfl rfl ?_;refine TL.off rfl rfl rfl rfl (beq_eq_false_iff_ne.2 c35) rfl rfl ?_;refine TL.op1 (OpR.pickF rfl (beq_eq_false_iff_ne.2 c35) rfl) rfl ?_;refine aN rfl ?_;refine T.condF rfl rfl ?_;refine T.skip ?_;obtain rfl:=osi ht14;exact⟨_,Gst.only [0,1,4,5,13,14,15] rfl,_,rfl,rfl⟩
  refine TL.on rfl rfl rfl rfl (beq_iff_eq.2 c35) ?_;refine aA rfl rfl ?_;refine TL.on rfl rfl rfl rfl (beq_iff_eq.2 c35) ?_;refine aA rfl rfl ?_;refine TL.on rfl rfl rfl rfl (beq_iff_eq.2 c35) ?_;refine aA rfl rfl ?_;refine TL.on rfl rfl rfl rfl (beq_iff_eq.2 c35) ?_;refine aA rfl rfl ?_;refine TL.on rfl rfl rfl rfl (beq_iff_eq.2 c35) ?_;refine aA rfl rfl ?_;refine TL.on rfl rfl rfl rfl (beq_iff_eq.2 c35) ?_;obtain⟨x36,hx36,ht14⟩:=bS ht14;rcases x36 with x36|x36;rotate_left
  ·dsimp only at ht14;refine TL.op1 (OpR.callY [0,3] rfl (find_First_r0_cx2 hx36) rfl rfl rfl (fun _=>rfl)) rfl ?_;refine TL.on rfl rfl rfl rfl (beq_iff_eq.2 c35) ?_;refine aA rfl rfl ?_;refine TL.op1 (OpR.pickT rfl (beq_iff_eq.2 c35) rfl) rfl ?_;refine aN rfl ?_;refine T.condF rfl rfl ?_;refine T.skip ?_;obtain rfl:=osi ht14;exact⟨_,Gst.only [0,1,4,5,13,14,15] rfl,_,rfl,rfl⟩
  dsimp only at ht14;refine TL.op1 (OpR.callY [0,3] rfl (find_First_r0_cx1 hx36) rfl rfl rfl (fun _=>rfl)) rfl ?_;refine TL.on rfl rfl rfl rfl (beq_iff_eq.2 c35) ?_;refine aA rfl rfl ?_;refine TL.op1 (OpR.pickT rfl (beq_iff_eq.2 c35) rfl) rfl ?_;refine aN rfl ?_;refine T.condT rfl rfl ?_;refine T.ret ?_;obtain rfl:=osi ht14;obtain rfl:=osi q9;obtain rfl:_=_:=i10;obtain rfl:=osi h0;exact rO [0,1,2,3] [] rfl undef ResL.nil rfl rfl rfl rfl
 refine T.block ?_;obtain⟨n19,n24⟩:=loop_some ht17;refine T.loop (fun n S'=>∃ S'',Gst S' S''∧∃ s18:Int,S''=⟨[(15,(dN s5.2)),(14,(dN (a2.length:Int))),(13,.sl 1 (lB a2)),(7,.val (.int .u8 (x16.toNat:Int))),(6,(dN s5.2)),(5,(dN s18)),(4,.sl 1 (List.map (eI .i64) x2)),(1,(dP b1)),(0,.fn (.yield b0) [] [])],[.lp b0 .ready none [11] rfA176_0 rfB176_0 [(6,(dP b3)),(5,.nod [dN a0])] 16,.var b1 [.sl 1 (lB a1)] 122,.var b2 [.sl 1 (lB a2)] 122,.var b3 [dN a3] 3],62⟩∧iter (find_places_1.l1 a1 x2 x16) n s18=some t17) n19 ?_ ?_
 ·exact⟨_,Gst.only [0,1,4,5,6,7,13,14,15] rfl,s5.1,rfl,n24⟩
 rintro n19 _ ⟨_,g,s18,rfl,i23⟩;refine T.ghost g ?_;obtain⟨m20,q21,rfl,q22,i23⟩:=iter_succ i23;unfold find_places_1.l1 at q22;refine T.seq ?_;refine T.seq ?_;obtain⟨t26,ht26,q22⟩:=bS q22;refine T.cutC (fun S'=>S'=⟨[(35,(dT t26)),(15,(dN s5.2)),(14,(dN (a2.length:Int))),(13,.sl 1 (lB a2)),(7,.val (.int .u8 (x16.toNat:Int))),(6,(dN s5.2)),(5,(dN s18)),(4,.sl 1 (List.map (eI .i64) x2)),(1,(dP b1)),(0,.fn (.yield b0) [] [])],[.lp b0 .ready none [11] rfA176_0 rfB176_0 [(6,(dP b3)),(5,.nod [dN a0])] 16,.var b1 [.sl 1 (lB a1)] 122,.var b2 [.sl 1 (lB a2)] 122,.var b3 [dN a3] 3],62⟩) (fun _ h=>h) ?_ ?_;rotate_left
 ·rintro _ rfl;show T X _ _ _;rcases ite_some q22 with ⟨c30,q22⟩|⟨c30,q22⟩;rotate_left
  ·refine T.condF rfl (eq_false_of_ne_true c30) ?_;refine T.exit ?_;obtain rfl:=osi q22;obtain rfl:_=_:=i23;exact⟨_,Gst.only [0,1,4,5,6,7,13,14,15] rfl,rfl⟩
  refine T.condT rfl (c30) ?_;refine aK rfl ?_;refine T.block ?_;refine T.region ?_;iterate 2 refine aA rfl rfl ?_
  obtain⟨x31,hx31,q22⟩:=bS q22;refine TL.op1 (OpR.indexM (eI .i64) hx31 rfl rfl rfl rfl rfl) rfl ?_;iterate 2 refine aA rfl rfl ?_
  refine TL.nil ?_;obtain rfl:=osi q22;exact⟨m20,Nat.lt_succ_self _,_,Gst.only [0,1,4,5,6,7,13,14,15] rfl,x31,rfl,i23⟩
 refine T.region ?_;iterate 3 refine aA rfl rfl ?_
 rcases ite_some ht26 with ⟨c27,ht26⟩|⟨c27,ht26⟩;rotate_left
 ·refine TL.off rfl rfl rfl rfl (eF c27) rfl rfl ?_;refine TL.off rfl rfl rfl rfl (eF c27) rfl rfl ?_;refine TL.off rfl rfl rfl rfl (eF c27) rfl rfl ?_;refine TL.off rfl rfl rfl rfl (eF c27) rfl rfl ?_;refine TL.off rfl rfl rfl rfl (eF c27) rfl rfl ?_;refine TL.offU rfl rfl rfl rfl rfl rfl ?_;refine TL.offU rfl rfl rfl rfl rfl rfl ?_;refine TL.offU rfl rfl rfl rfl rfl rfl ?_;refine TL.offU rfl rfl rfl rfl rfl rfl ?_;refine TL.offU rfl rfl rfl rfl rfl rfl ?_;refine TL.offU rfl rfl rfl rfl rfl rfl ?_;refine TL.off rfl rfl rfl rfl (eF c27) rfl rfl ?_;refine TL.op1 (OpR.pickF rfl (eF c27) rfl) rfl ?_;refine TL.nil ?_;obtain rfl:=osi ht26;exact⟨_,Gst.only [0,1,4,5,6,7,13,14,15,35] rfl,rfl⟩
 refine TL.on rfl rfl rfl rfl (eT c27) ?_;refine aA rfl rfl ?_;refine TL.on rfl rfl rfl rfl (eT c27) ?_;refine TL.op1 (OpR.loadPtr 1 rfl rfl rfl rfl) rfl ?_;refine TL.on rfl rfl rfl rfl (eT c27) ?_;refine TL.op1 (OpR.cast (OpR.pure rfl) (intE (lenM _ _))) rfl ?_;refine TL.on rfl rfl rfl rfl (eT c27) ?_;refine aA rfl rfl ?_;refine TL.on rfl rfl rfl rfl (eT c27) ?_;refine aA rfl rfl ?_;rcases ite_some ht26 with ⟨c28,ht26⟩|⟨c28,ht26⟩
 ·refine TL.off rfl rfl rfl rfl (beq_iff_eq.2 c28) rfl rfl ?_;refine TL.off rfl rfl rfl rfl (beq_iff_eq.2 c28) rfl rfl ?_;refine TL.off rfl rfl rfl rfl (beq_iff_eq.2 c28) rfl rfl ?_;refine TL.off rfl rfl rfl rfl (beq_iff_eq.2 c28) rfl rfl ?_;refine TL.off rfl rfl rfl rfl (beq_iff_eq.2 c28) rfl rfl ?_;refine TL.off rfl rfl rfl rfl (beq_iff_eq.2 c28) rfl rfl ?_;refine TL.on rfl rfl rfl rfl (eT c27) ?_;refine TL.op1 (OpR.pickT rfl (beq_iff_eq.2 c28) rfl) rfl ?_;refine TL.op1 (OpR.pickT rfl (eT c27) rfl) rfl ?_;refine TL.nil ?_;obtain rfl:=osi ht26;exact⟨_,Gst.only [0,1,4,5,6,7,13,14,15,35] rfl,rfl⟩
 refine TL.on rfl rfl rfl rfl (beq_eq_false_iff_ne.2 c28) ?_;refine aA rfl rfl ?_;refine TL.on rfl rfl rfl rfl (beq_eq_false_iff_ne.2 c28) ?_;refine TL.op1 (OpR.loadPtr 1 rfl rfl rfl rfl) rfl ?_;refine TL.on rfl rfl rfl rfl (beq_eq_false_iff_ne.2 c28) ?_;refine aA rfl rfl ?_;refine TL.on rfl rfl rfl rfl (beq_eq_false_iff_ne.2 c28) ?_;obtain⟨x29,hx29,ht26⟩:=bS ht26;refine TL.op1 (OpR.indexM byteD hx29 rfl rfl rfl rfl rfl) rfl ?_;refine TL.on rfl rfl rfl rfl (beq_eq_false_iff_ne.2 c28) ?_;refine aA rfl rfl ?_;refine TL.on rfl rfl rfl rfl (beq_eq_false_iff_ne.2 c28) ?_;refine aA rfl rfl ?_;refine TL.on rfl rfl rfl rfl (eT c27) ?_;refine TL.op1 (OpR.pickF rfl (beq_eq_false_iff_ne.2 c28) rfl) rfl ?_;refine TL.op1 (OpR.pickT rfl (eT c27) rfl) rfl ?_;refine TL.nil ?_;obtain rfl:=osi ht26;exact⟨_,Gst.only [0,1,4,5,6,7,13,14,15,35] rfl,rfl⟩
theorem find_places_1_cx1 {a0:Int} {a1:List UInt8} {a2:List UInt8} {a3:Int} {b0:Nat} {b1:Nat} {b2:Nat} {b3:Nat} {res:Unit} (h0:find_places_1 a0 a1 a2 a3=some (Sum.inl res)):CallF X 245 [.fn (.yield b0) [] [],dP b1,dP b2] [.lp b0 .ready none [11] rfA176_0 rfB176_0 [(6,(dP b3)),(5,.nod [dN a0])] 16,.var b1 [.sl 1 (lB a1)] 122,.var b2 [.sl 1 (lB a2)] 122,.var b3 [dN a3] 3] (fun x=>.tup []) (fun x=>[.lp b0 .ready none [11] rfA176_0 rfB176_0 [(6,(dP b3)),(5,.nod [dN a0])] 16,.var b1 [.sl 1 (lB a1)] 122,.var b2 [.sl 1 (lB a2)] 122,.var b3 [dN a3] 3]):=find_places_1_c h0
theorem find_places_1_cx2 {a0:Int} {a1:List UInt8} {a2:List UInt8} {a3:Int} {b0:Nat} {b1:Nat} {b2:Nat} {b3:Nat} {res:Int} (h0:find_places_1 a0 a1 a2 a3=some (Sum.inr res)):CallF X 245 [.fn (.yield b0) [] [],dP b1,dP b2] [.lp b0 .ready none [11] rfA176_0 rfB176_0 [(6,(dP b3)),(5,.nod [dN a0])] 16,.var b1 [.sl 1 (lB a1)] 122,.var b2 [.sl 1 (lB a2)] 122,.var b3 [dN a3] 3] (fun x=>.tup []) (fun x=>[.lp b0 .done (some (.ret)) [11] rfA176_0 rfB176_0 [(6,(dP b3)),(5,.nod [dN a0])] 16,.var b1 [.sl 1 (lB a1)] 122,.var b2 [.sl 1 (lB a2)] 122,.var b3 [dN res] 3]):=find_places_1_c h0
noncomputable def find_First (a0:List UInt8) (a1:List UInt8) (a2:Int):Option Int:=
 bnd (find_places a0 a1) fun x2=>
 bnd (find_places_1 a2 x2.1 x2.2 0) fun x5=>
 match x5 with
| .inl x5=>
 some (-1)
| .inr x5=>
 some x5
theorem find_First_c {a0:List UInt8} {a1:List UInt8} {a2:Int} {res:Int} (h0:find_First a0 a1 a2=some res):CallF X 176 [.sl 1 (lB a0),.sl 1 (lB a1),dN a2] [] (fun x=>(dN res)) (fun x=>[]):=by
 unfold find_First at h0;refine CallF.mkG (X:=X) rfl Tryz.func176 rfl rfl Tryz.ntmps176 rfl rfl ?_;refine aS ?_;refine TL.op1 (OpR.boxImm rfl rfl) rfl ?_;refine TL.op (OpR.alloc rfl rfl (fun _=>rfl)) rfl (fun p1=>?_);refine aN rfl ?_;refine T.seq ?_;refine aS ?_;iterate 2 refine aA rfl rfl ?_
 obtain⟨x2,hx2,h0⟩:=bS h0;refine TL.op (OpR.call [] fn220 (find_places_c hx2) rfl rfl rfl (fun _=>rfl)) rfl (fun w3=>?_);refine aN rfl ?_;refine T.block ?_;obtain⟨x5,hx5,h0⟩:=bS h0;rcases x5 with x5|x5;rotate_left
 ·dsimp only at h0;refine T.rangeJ (A:=rfA176_0) (B:=rfB176_0) (.ret) [5,6] [1,2,0] (.inl rfl) rfl rfl rfl rfl rfl fn245 rfl rfl (fun l4=>(find_places_1_cx2 hx5)) (fun _=>rfl) (fun w7=>?_);refine T.ret ?_;obtain rfl:=osi h0;exact rP [] [6] [0] rfl rfl rfl undef (cV 0 rfl rfl rfl rfl ResL.nil) rfl rfl rfl rfl
 dsimp only at h0;refine T.rangeN (A:=rfA176_0) (B:=rfB176_0) [5,6] [1,2,0] (.inl rfl) rfl rfl rfl rfl rfl fn245 rfl rfl (fun l4=>(find_places_1_cx1 hx5)) (fun _=>rfl) (fun w6=>?_);show T X _ _ _;refine aS ?_;refine TL.op0 (OpR.store 0 rfl rfl rfl rfl rfl rfl rfl rfl) ?_;refine aN rfl ?_;refine T.ret ?_;obtain rfl:=osi h0;exact rP [] [6] [0] rfl rfl rfl undef (cV 0 rfl rfl rfl rfl ResL.nil) rfl rfl rfl rfl
noncomputable def filter_of_1 (a0:List UInt8) (a1:List UInt8):Option Bool:=
 bnd (if (a1.length:Int)=0 then
 some true
else
 bnd (find_First a0 a1 0) fun x3=>
 some (decide (x3≥0)):Option Bool) fun t1=>
 some t1
theorem filter_of_1_c {a0:List UInt8} {a1:List UInt8} {res:Bool} (h0:filter_of_1 a0 a1=some res):CallF X 175 [.sl 1 (lB a0),.sl 1 (lB a1)] [] (fun x=>(dT res)) (fun x=>[]):=by
 unfold filter_of_1 at h0;refine CallF.mkG (X:=X) rfl Tryz.func175 rfl rfl Tryz.ntmps175 rfl rfl ?_;refine aS ?_;refine aA rfl rfl ?_;refine aN rfl ?_;refine T.seq ?_;obtain⟨t1,ht1,h0⟩:=bS h0;refine T.cutC (fun S'=>S'=⟨[(4,(dT t1))],[],14⟩) (fun _ h=>h) ?_ ?_;rotate_left
 ·rintro _ rfl;show T X _ _ _;refine T.ret ?_;obtain rfl:=osi h0;exact rO [] [4] rfl undef (cT rfl ResL.nil) rfl rfl rfl rfl
 refine T.region ?_;refine aA rfl rfl ?_;refine TL.op1 (OpR.cast (OpR.pure rfl) (intE (lenM _ _))) rfl ?_;iterate 2 refine aA rfl rfl ?_
 rcases ite_some ht1 with ⟨c2,ht1⟩|⟨c2,ht1⟩
 ·refine TL.off rfl rfl rfl rfl (beq_iff_eq.2 c2) rfl rfl ?_;refine TL.off rfl rfl rfl rfl (beq_iff_eq.2 c2) rfl rfl ?_;refine TL.off rfl rfl rfl rfl (beq_iff_eq.2 c2) rfl rfl ?_;refine TL.off rfl rfl rfl rfl (beq_iff_eq.2 c2) rfl rfl ?_;refine TL.op1 (OpR.pickT rfl (beq_iff_eq.2 c2) rfl) rfl ?_;refine aA rfl rfl ?_;refine TL.nil ?_;obtain rfl:=osi ht1;exact⟨_,Gst.only [4] rfl,rfl⟩
 refine TL.on rfl rfl rfl rfl (beq_eq_false_iff_ne.2 c2) ?_;refine aA rfl rfl ?_;refine TL.on rfl rfl rfl rfl (beq_eq_false_iff_ne.2 c2) ?_;refine aA rfl rfl ?_;refine TL.on rfl rfl rfl rfl (beq_eq_false_iff_ne.2 c2) ?_;obtain⟨x3,hx3,ht1⟩:=bS ht1;refine TL.op1 (OpR.call0 fn176 (find_First_c hx3) rfl) rfl ?_;refine TL.on rfl rfl rfl rfl (beq_eq_false_iff_ne.2 c2) ?_;refine aA rfl rfl ?_;refine TL.op1 (OpR.pickF rfl (beq_eq_false_iff_ne.2 c2) rfl) rfl ?_;refine aA rfl rfl ?_;refine TL.nil ?_;obtain rfl:=osi ht1;exact⟨_,Gst.only [4] rfl,rfl⟩
noncomputable def bytes_Equal (a0:List UInt8) (a1:List UInt8):Option Bool:=
 some (a0==a1)
theorem bytes_Equal_c {a0:List UInt8} {a1:List UInt8} {res:Bool} (h0:bytes_Equal a0 a1=some res):CallF X 177 [.sl 1 (lB a0),.sl 1 (lB a1)] [] (fun x=>(dT res)) (fun x=>[]):=by
 unfold bytes_Equal at h0;refine CallF.mkG (X:=X) rfl Tryz.func177 rfl rfl Tryz.ntmps177 rfl rfl ?_;refine aS ?_;refine aA rfl rfl ?_;refine aN rfl ?_;refine aS ?_;refine aA rfl rfl ?_;refine TL.op1 (OpR.toStr (bs:=a0) rfl rfl rfl rfl rfl rfl rfl) rfl ?_;refine aA rfl rfl ?_;refine TL.op1 (OpR.toStr (bs:=a1) rfl rfl rfl rfl rfl rfl rfl) rfl ?_;refine TL.op1 (OpR.cast (OpR.pure rfl) (boolE (strEq _ _))) rfl ?_;refine aA rfl rfl ?_;refine aN rfl ?_;refine T.ret ?_;obtain rfl:=osi h0;exact rO [] [4] rfl undef (cT rfl ResL.nil) rfl rfl rfl rfl
noncomputable def num_sign (a0:List UInt8):Option (Bool × (List UInt8)):=
 if (a0.length:Int)=0 then
 some (false,a0)
else
 bnd (idx a0 0) fun x2=>
 if (x2.toNat:Int)=45 then
 bnd (cut a0 1 (a0.length:Int)) fun x5=>
 some (true,x5)
else
 if (x2.toNat:Int)=43 then
 bnd (cut a0 1 (a0.length:Int)) fun x8=>
 some (false,x8)
else
 some (false,a0)
theorem num_sign_c {a0:List UInt8} {res:Bool × (List UInt8)} (h0:num_sign a0=some res):CallF X 237 [.sl 1 (lB a0)] [] (fun x=>.tup [dT res.1,.sl 1 (lB res.2)]) (fun x=>[]):=by
 unfold num_sign at h0;refine CallF.mkG (X:=X) rfl Tryz.func237 rfl rfl Tryz.ntmps237 rfl rfl ?_;refine aS ?_;iterate 2 refine aA rfl rfl ?_
 refine aN rfl ?_;refine T.seq ?_;refine aS ?_;refine aA rfl rfl ?_;refine TL.op1 (OpR.cast (OpR.pure rfl) (intE (lenM _ _))) rfl ?_;refine aA rfl rfl ?_;refine aN rfl ?_;rcases ite_some h0 with ⟨c1,h0⟩|⟨c1,h0⟩
 ·refine T.condT rfl (beq_iff_eq.2 c1) ?_;refine aS ?_;iterate 3 refine aA rfl rfl ?_
  refine aN rfl ?_;refine T.ret ?_;obtain rfl:=osi h0;exact rO [] [2,3] rfl undef (cT rfl (cT rfl ResL.nil)) rfl rfl rfl rfl
 refine T.condF rfl (beq_eq_false_iff_ne.2 c1) ?_;refine aK rfl ?_;refine T.seq ?_;refine aS ?_;refine aA rfl rfl ?_;obtain⟨x2,hx2,h0⟩:=bS h0;refine TL.op1 (OpR.indexM byteD hx2 rfl rfl rfl rfl rfl) rfl ?_;refine aA rfl rfl ?_;refine aN rfl ?_;refine T.block ?_;refine aS ?_;iterate 2 refine aA rfl rfl ?_
 refine aN rfl ?_;rcases ite_some h0 with ⟨c3,h0⟩|⟨c3,h0⟩
 ·refine T.condT rfl (beq_iff_eq.2 c3) ?_;refine T.seq ?_;obtain⟨x5,hx5,h0⟩:=bS h0;refine T.drawQ drawsX [.sl 1 (lB a0),.sl 1 (lB x5),dT true,.sl 1 (lB x5)] [0,2,3] (by decide +kernel) rfl ?_ rfl ?_;rotate_left
  ·show T X _ _ _;refine T.ret ?_;obtain rfl:=osi h0;exact rO [] [2,3] rfl undef (cT rfl (cT rfl ResL.nil)) rfl rfl rfl rfl
  refine aB rfl rfl rfl ?_;refine OpsQ.yes (Want.plain rfl) rfl (OpR.sliceM (sz:=1) byteD hx5 rfl rfl rfl rfl (BdM.some rfl) BdM.none rfl) ?_;iterate 2 refine aB rfl rfl rfl ?_
  exact OpsQ.nil
 refine T.condF rfl (beq_eq_false_iff_ne.2 c3) ?_;refine aS ?_;iterate 2 refine aA rfl rfl ?_
 refine aN rfl ?_;rcases ite_some h0 with ⟨c6,h0⟩|⟨c6,h0⟩;rotate_left
 ·refine T.condF rfl (beq_eq_false_iff_ne.2 c6) ?_;refine aK rfl ?_;refine aS ?_;iterate 3 refine aA rfl rfl ?_
  refine aN rfl ?_;refine T.ret ?_;obtain rfl:=osi h0;exact rO [] [2,3] rfl undef (cT rfl (cT rfl ResL.nil)) rfl rfl rfl rfl
 refine T.condT rfl (beq_iff_eq.2 c6) ?_;refine T.seq ?_;obtain⟨x8,hx8,h0⟩:=bS h0;refine T.drawQ drawsX [.sl 1 (lB a0),.sl 1 (lB x8),dT false,.sl 1 (lB x8)] [0,2,3] (by decide +kernel) rfl ?_ rfl ?_;rotate_left
 ·show T X _ _ _;refine T.ret ?_;obtain rfl:=osi h0;exact rO [] [2,3] rfl undef (cT rfl (cT rfl ResL.nil)) rfl rfl rfl rfl
 refine aB rfl rfl rfl ?_;refine OpsQ.yes (Want.plain rfl) rfl (OpR.sliceM (sz:=1) byteD hx8 rfl rfl rfl rfl (BdM.some rfl) BdM.none rfl) ?_;iterate 2 refine aB rfl rfl rfl ?_
 exact OpsQ.nil
noncomputable def num_digit (a0:UInt8):Option (Int × Bool):=
 bnd (if (a0.toNat:Int)<48 then
 some true
else
 some (decide ((a0.toNat:Int)>57)):Option Bool) fun t1=>
 if t1=true then
 some (0,false)
else
 some (IntKind.wrap .u64 ((ub ((a0.toNat:Int)-48)).toNat:Int),true)
theorem num_digit_c {a0:UInt8} {res:Int × Bool} (h0:num_digit a0=some res):CallF X 165 [.val (.int .u8 (a0.toNat:Int))] [] (fun x=>.tup [.val (.int .u64 res.1),dT res.2]) (fun x=>[]):=by
 unfold num_digit at h0;refine CallF.mkG (X:=X) rfl Tryz.func165 rfl rfl Tryz.ntmps165 rfl rfl ?_;refine aS ?_;iterate 2 refine aA rfl rfl ?_
 refine aN rfl ?_;refine T.seq ?_;refine T.seq ?_;obtain⟨t1,ht1,h0⟩:=bS h0;refine T.cutC (fun S'=>S'=⟨[(9,(dT t1)),(3,(dT false)),(2,.val (.int .u64 0)),(0,.val (.int .u8 (a0.toNat:Int)))],[],13⟩) (fun _ h=>h) ?_ ?_
 ·refine T.region ?_;iterate 3 refine aA rfl rfl ?_
  rcases ite_some ht1 with ⟨c2,ht1⟩|⟨c2,ht1⟩
  ·refine TL.off rfl rfl rfl rfl (eT c2) rfl rfl ?_;refine TL.off rfl rfl rfl rfl (eT c2) rfl rfl ?_;refine TL.op1 (OpR.pickT rfl (eT c2) rfl) rfl ?_;refine TL.nil ?_;obtain rfl:=osi ht1;exact⟨_,Gst.only [0,2,3,9] rfl,rfl⟩
  refine TL.on rfl rfl rfl rfl (eF c2) ?_;refine aA rfl rfl ?_;refine TL.on rfl rfl rfl rfl (eF c2) ?_;refine aA rfl rfl ?_;refine TL.op1 (OpR.pickF rfl (eF c2) rfl) rfl ?_;refine TL.nil ?_;obtain rfl:=osi ht1;exact⟨_,Gst.only [0,2,3,9] rfl,rfl⟩
 rintro _ rfl;show T X _ _ _;rcases ite_some h0 with ⟨c3,h0⟩|⟨c3,h0⟩
 ·refine T.condT rfl (c3) ?_;refine aS ?_;iterate 2 refine aA rfl rfl ?_
  refine aN rfl ?_;refine T.ret ?_;obtain rfl:=osi h0;exact rO [] [2,3] rfl undef (cT rfl (cT rfl ResL.nil)) rfl rfl rfl rfl
 refine T.condF rfl (eq_false_of_ne_true c3) ?_;refine aK rfl ?_;refine aS ?_;refine aA rfl rfl ?_;refine TL.op1 (OpR.cast (OpR.pure rfl) (intE (ub_wrap _))) rfl ?_;iterate 3 refine aA rfl rfl ?_
 refine aN rfl ?_;refine T.ret ?_;obtain rfl:=osi h0;exact rO [] [2,3] rfl undef (cT rfl (cT rfl ResL.nil)) rfl rfl rfl rfl
noncomputable def num_magnitude.l1 (a0:List UInt8) (s3:Int × Int):Option (Lp (Int × Int) (Ex Int (Int × Bool))):=
 if s3.2<(a0.length:Int) then
 bnd (idx a0 s3.2) fun x12=>
 bnd (num_digit x12) fun x13=>
 bnd (if x13.2=true then
 bnd (some (IntKind.wrap .u64 (quo (IntKind.wrap .u64 (9223372036854775808-x13.1)) 9))) fun x16=>
 some (decide (s3.1>x16))
else
 some true:Option Bool) fun t14=>
 if t14=true then
 some (Lp.done (Ex.ret (0,false)))
else
 some (Lp.next (IntKind.wrap .u64 ((IntKind.wrap .u64 (s3.1*10))+x13.1),w64 (s3.2+1)))
else
 some (Lp.done (Ex.brk s3.1))
noncomputable def num_magnitude (a0:List UInt8):Option (Int × Bool):=
 bnd (loop (num_magnitude.l1 a0) (0,0):Option (Ex Int (Int × Bool))) fun t1=>match t1 with
| .brk u2=>
 some (u2,decide ((a0.length:Int)>0))
| .ret u2=>some u2
theorem num_magnitude_c {a0:List UInt8} {res:Int × Bool} (h0:num_magnitude a0=some res):CallF X 238 [.sl 1 (lB a0)] [] (fun x=>.tup [.val (.int .u64 res.1),dT res.2]) (fun x=>[]):=by
 unfold num_magnitude at h0;refine CallF.mkG (X:=X) rfl Tryz.func238 rfl rfl Tryz.ntmps238 rfl rfl ?_;refine aS ?_;iterate 2 refine aA rfl rfl ?_
 refine aN rfl ?_;refine aS ?_;refine aA rfl rfl ?_;refine aN rfl ?_;refine T.seq ?_;refine aS ?_;refine aA rfl rfl ?_;refine TL.op1 (OpR.cast (OpR.pure rfl) (intE (lenM _ _))) rfl ?_;refine aA rfl rfl ?_;refine aN rfl ?_;obtain⟨t1,ht1,h0⟩:=bS h0;refine T.cutC (fun S'=>∃ u2,t1=Ex.brk u2∧S'=⟨[(4,.val (.int .u64 u2)),(3,(dT false)),(2,.val (.int .u64 0)),(0,.sl 1 (lB a0))],[],39⟩) (fun _ h=>h) ?_ ?_;rotate_left
 ·rintro _ ⟨u2,rfl,rfl⟩;show T X _ _ _;refine aS ?_;iterate 2 refine aA rfl rfl ?_
  refine TL.op1 (OpR.cast (OpR.pure rfl) (intE (lenM _ _))) rfl ?_;iterate 3 refine aA rfl rfl ?_
  refine aN rfl ?_;refine T.ret ?_;obtain rfl:=osi h0;exact rO [] [2,3] rfl undef (cT rfl (cT rfl ResL.nil)) rfl rfl rfl rfl
 refine T.block ?_;obtain⟨n4,n9⟩:=loop_some ht1;refine T.loop (fun n S'=>∃ S'',Gst S' S''∧∃ s3:Int × Int,S''=⟨[(10,(dN s3.2)),(9,(dN (a0.length:Int))),(4,.val (.int .u64 s3.1)),(3,(dT false)),(2,.val (.int .u64 0)),(0,.sl 1 (lB a0))],[],39⟩∧iter (num_magnitude.l1 a0) n s3=some t1) n4 ?_ ?_
 ·exact⟨_,Gst.only [0,2,3,4,9,10] rfl,(0,0),rfl,n9⟩
 rintro n4 _ ⟨_,g,s3,rfl,i8⟩;refine T.ghost g ?_;obtain⟨m5,q6,rfl,q7,i8⟩:=iter_succ i8;unfold num_magnitude.l1 at q7;refine aS ?_;refine aA rfl rfl ?_;refine aN rfl ?_;refine T.seq ?_;rcases ite_some q7 with ⟨c11,q7⟩|⟨c11,q7⟩;rotate_left
 ·refine T.condF rfl (eF c11) ?_;refine T.exit ?_;obtain rfl:=osi q7;obtain rfl:_=_:=i8;exact⟨_,Gst.only [0,2,3,4] rfl,_,rfl,rfl⟩
 refine T.condT rfl (eT c11) ?_;refine aK rfl ?_;refine T.seq ?_;refine T.block ?_;refine aS ?_;iterate 2 refine aA rfl rfl ?_
 refine aN rfl ?_;refine aS ?_;iterate 2 refine aA rfl rfl ?_
 obtain⟨x12,hx12,q7⟩:=bS q7;refine TL.op1 (OpR.indexM byteD hx12 rfl rfl rfl rfl rfl) rfl ?_;refine aA rfl rfl ?_;obtain⟨x13,hx13,q7⟩:=bS q7;refine TL.op1 (OpR.call0 fn165 (num_digit_c hx13) rfl) rfl ?_;iterate 5 refine aA rfl rfl ?_
 refine aN rfl ?_;refine T.seq ?_;refine T.seq ?_;obtain⟨t14,ht14,q7⟩:=bS q7;refine T.cutC (fun S'=>S'=⟨[(29,(dT t14)),(10,(dN s3.2)),(9,(dN (a0.length:Int))),(6,.val (.int .u64 x13.1)),(4,.val (.int .u64 s3.1)),(3,(dT false)),(2,.val (.int .u64 0)),(0,.sl 1 (lB a0))],[],39⟩) (fun _ h=>h) ?_ ?_;rotate_left
 ·rintro _ rfl;show T X _ _ _;rcases ite_some q7 with ⟨c17,q7⟩|⟨c17,q7⟩
  ·refine T.condT rfl (c17) ?_;refine aS ?_;iterate 2 refine aA rfl rfl ?_
   refine aN rfl ?_;refine T.ret ?_;obtain rfl:=osi q7;obtain rfl:_=_:=i8;obtain rfl:=osi h0;exact rO [] [2,3] rfl undef (cT rfl (cT rfl ResL.nil)) rfl rfl rfl rfl
  refine T.condF rfl (eq_false_of_ne_true c17) ?_;refine aK rfl ?_;refine T.region ?_;iterate 5 refine aA rfl rfl ?_
  refine aN rfl ?_;refine T.region ?_;iterate 2 refine aA rfl rfl ?_
  refine TL.nil ?_;obtain rfl:=osi q7;exact⟨m5,Nat.lt_succ_self _,_,Gst.only [0,2,3,4,9,10] rfl,(IntKind.wrap .u64 ((IntKind.wrap .u64 (s3.1*10))+x13.1),w64 (s3.2+1)),rfl,i8⟩
 refine T.region ?_;iterate 3 refine aA rfl rfl ?_
 rcases ite_some ht14 with ⟨c15,ht14⟩|⟨c15,ht14⟩;rotate_left
 ·refine TL.off rfl rfl rfl rfl (not_f (eq_false_of_ne_true c15)) rfl rfl ?_;refine TL.off rfl rfl rfl rfl (not_f (eq_false_of_ne_true c15)) rfl rfl ?_;refine TL.off rfl rfl rfl rfl (not_f (eq_false_of_ne_true c15)) rfl rfl ?_;refine TL.off rfl rfl rfl rfl (not_f (eq_false_of_ne_true c15)) rfl rfl ?_;refine TL.off rfl rfl rfl rfl (not_f (eq_false_of_ne_true c15)) rfl rfl ?_;refine TL.op1 (OpR.pickT rfl (not_f (eq_false_of_ne_true c15)) rfl) rfl ?_;refine TL.nil ?_;obtain rfl:=osi ht14;exact⟨_,Gst.only [0,2,3,4,6,9,10,29] rfl,rfl⟩
 refine TL.on rfl rfl rfl rfl (not_t (c15)) ?_;refine aA rfl rfl ?_;refine TL.on rfl rfl rfl rfl (not_t (c15)) ?_;refine aA rfl rfl ?_;refine TL.on rfl rfl rfl rfl (not_t (c15)) ?_;refine aA rfl rfl ?_;refine TL.on rfl rfl rfl rfl (not_t (c15)) ?_;obtain⟨x16,hx16,ht14⟩:=bS ht14;refine TL.op1 (OpR.cast (OpR.pure rfl) (intE (osi hx16))) rfl ?_;refine TL.on rfl rfl rfl rfl (not_t (c15)) ?_;refine aA rfl rfl ?_;refine TL.op1 (OpR.pickF rfl (not_t (c15)) rfl) rfl ?_;refine TL.nil ?_;obtain rfl:=osi ht14;exact⟨_,Gst.only [0,2,3,4,6,9,10,29] rfl,rfl⟩
noncomputable def num_Parse (a0:List UInt8):Option (Int × Bool):=
 bnd (num_sign a0) fun x1=>
 bnd (num_magnitude x1.2) fun x2=>
 bnd (if x2.2=true then
 if x1.1=true then
 some false
else
 some (x2.1==9223372036854775808)
else
 some (!x2.2):Option Bool) fun t3=>
 if t3=true then
 some (0,false)
else
 if x1.1=true then
 some (w64 (IntKind.wrap .u64 (0-x2.1)),true)
else
 some (w64 x2.1,true)
theorem num_Parse_c {a0:List UInt8} {res:Int × Bool} (h0:num_Parse a0=some res):CallF X 212 [.sl 1 (lB a0)] [] (fun x=>.tup [dN res.1,dT res.2]) (fun x=>[]):=by
 unfold num_Parse at h0;refine CallF.mkG (X:=X) rfl Tryz.func212 rfl rfl Tryz.ntmps212 rfl rfl ?_;refine aS ?_;iterate 2 refine aA rfl rfl ?_
 refine aN rfl ?_;refine aS ?_;refine aA rfl rfl ?_;obtain⟨x1,hx1,h0⟩:=bS h0;refine TL.op1 (OpR.call0 fn237 (num_sign_c hx1) rfl) rfl ?_;iterate 5 refine aA rfl rfl ?_
 refine aN rfl ?_;refine aS ?_;refine aA rfl rfl ?_;obtain⟨x2,hx2,h0⟩:=bS h0;refine TL.op1 (OpR.call0 fn238 (num_magnitude_c hx2) rfl) rfl ?_;iterate 5 refine aA rfl rfl ?_
 refine aN rfl ?_;refine T.seq ?_;refine T.block ?_;refine T.seq ?_;refine aS ?_;iterate 3 refine aA rfl rfl ?_
 refine aN rfl ?_;obtain⟨t3,ht3,h0⟩:=bS h0;refine T.cutC (fun S'=>S'=⟨[(18,(dT t3)),(6,.val (.int .u64 x2.1)),(4,(dT x1.1)),(3,(dT false)),(2,(dN 0))],[],34⟩) (fun _ h=>h) ?_ ?_
 ·rcases ite_some ht3 with ⟨c4,ht3⟩|⟨c4,ht3⟩;rotate_left
  ·refine T.condT rfl (not_f (eq_false_of_ne_true c4)) ?_;refine T.skip ?_;obtain rfl:=osi ht3;exact⟨_,Gst.only [2,3,4,6,18] rfl,rfl⟩
  refine T.condF rfl (not_t (c4)) ?_;refine T.region ?_;iterate 3 refine aA rfl rfl ?_
  rcases ite_some ht3 with ⟨c5,ht3⟩|⟨c5,ht3⟩
  ·refine TL.off rfl rfl rfl rfl (not_t (c5)) rfl rfl ?_;refine TL.off rfl rfl rfl rfl (not_t (c5)) rfl rfl ?_;refine TL.op1 (OpR.pickF rfl (not_t (c5)) rfl) rfl ?_;refine aA rfl rfl ?_;refine TL.nil ?_;obtain rfl:=osi ht3;exact⟨_,Gst.only [2,3,4,6,18] rfl,rfl⟩
  refine TL.on rfl rfl rfl rfl (not_f (eq_false_of_ne_true c5)) ?_;refine aA rfl rfl ?_;refine TL.on rfl rfl rfl rfl (not_f (eq_false_of_ne_true c5)) ?_;refine aA rfl rfl ?_;refine TL.op1 (OpR.pickT rfl (not_f (eq_false_of_ne_true c5)) rfl) rfl ?_;refine aA rfl rfl ?_;refine TL.nil ?_;obtain rfl:=osi ht3;exact⟨_,Gst.only [2,3,4,6,18] rfl,rfl⟩
 rintro _ rfl;show T X _ _ _;rcases ite_some h0 with ⟨c6,h0⟩|⟨c6,h0⟩
 ·refine T.condT rfl (c6) ?_;refine aS ?_;iterate 2 refine aA rfl rfl ?_
  refine aN rfl ?_;refine T.ret ?_;obtain rfl:=osi h0;exact rO [] [2,3] rfl undef (cT rfl (cT rfl ResL.nil)) rfl rfl rfl rfl
 refine T.condF rfl (eq_false_of_ne_true c6) ?_;refine aS ?_;iterate 2 refine aA rfl rfl ?_
 refine aN rfl ?_;rcases ite_some h0 with ⟨c7,h0⟩|⟨c7,h0⟩
 ·refine T.condT rfl (c7) ?_;refine aS ?_;iterate 5 refine aA rfl rfl ?_
  refine aN rfl ?_;refine T.ret ?_;obtain rfl:=osi h0;exact rO [] [2,3] rfl undef (cT rfl (cT rfl ResL.nil)) rfl rfl rfl rfl
 refine T.condF rfl (eq_false_of_ne_true c7) ?_;refine aK rfl ?_;refine aS ?_;iterate 4 refine aA rfl rfl ?_
 refine aN rfl ?_;refine T.ret ?_;obtain rfl:=osi h0;exact rO [] [2,3] rfl undef (cT rfl (cT rfl ResL.nil)) rfl rfl rfl rfl
noncomputable def cmp_isNaN_int (a0:Int):Option Bool:=
 some (!(a0==a0))
theorem cmp_isNaN_int_c {a0:Int} {res:Bool} (h0:cmp_isNaN_int a0=some res):CallF X 239 [dN a0] [] (fun x=>(dT res)) (fun x=>[]):=by
 unfold cmp_isNaN_int at h0;refine CallF.mkG (X:=X) rfl Tryz.func239 rfl rfl Tryz.ntmps239 rfl rfl ?_;refine aS ?_;refine aA rfl rfl ?_;refine aN rfl ?_;refine aS ?_;iterate 4 refine aA rfl rfl ?_
 refine aN rfl ?_;refine T.ret ?_;obtain rfl:=osi h0;exact rO [] [2] rfl undef (cT rfl ResL.nil) rfl rfl rfl rfl
noncomputable def cmp_Compare_int (a0:Int) (a1:Int):Option Int:=
 bnd (cmp_isNaN_int a0) fun x1=>
 bnd (cmp_isNaN_int a1) fun x2=>
 if x1=true then
 if x2=true then
 some 0
else
 some (-1)
else
 if x2=true then
 some 1
else
 if a0<a1 then
 some (-1)
else
 if a0>a1 then
 some 1
else
 some 0
theorem cmp_Compare_int_c {a0:Int} {a1:Int} {res:Int} (h0:cmp_Compare_int a0 a1=some res):CallF X 213 [dN a0,dN a1] [] (fun x=>(dN res)) (fun x=>[]):=by
 unfold cmp_Compare_int at h0;refine CallF.mkG (X:=X) rfl Tryz.func213 rfl rfl Tryz.ntmps213 rfl rfl ?_;refine aS ?_;refine aA rfl rfl ?_;refine aN rfl ?_;refine aS ?_;refine aA rfl rfl ?_;obtain⟨x1,hx1,h0⟩:=bS h0;refine TL.op1 (OpR.call0 fn239 (cmp_isNaN_int_c hx1) rfl) rfl ?_;refine aA rfl rfl ?_;refine aN rfl ?_;refine aS ?_;refine aA rfl rfl ?_;obtain⟨x2,hx2,h0⟩:=bS h0;refine TL.op1 (OpR.call0 fn239 (cmp_isNaN_int_c hx2) rfl) rfl ?_;refine aA rfl rfl ?_;refine aN rfl ?_;refine T.seq ?_;refine aS ?_;refine aA rfl rfl ?_;refine aN rfl ?_;rcases ite_some h0 with ⟨c3,h0⟩|⟨c3,h0⟩
 ·refine T.condT rfl (c3) ?_;refine T.seq ?_;refine aS ?_;refine aA rfl rfl ?_;refine aN rfl ?_;rcases ite_some h0 with ⟨c4,h0⟩|⟨c4,h0⟩
  ·refine T.condT rfl (c4) ?_;refine aS ?_;refine aA rfl rfl ?_;refine aN rfl ?_;refine T.ret ?_;obtain rfl:=osi h0;exact rO [] [4] rfl undef (cT rfl ResL.nil) rfl rfl rfl rfl
  refine T.condF rfl (eq_false_of_ne_true c4) ?_;refine aK rfl ?_;refine aS ?_;refine aA rfl rfl ?_;refine aN rfl ?_;refine T.ret ?_;obtain rfl:=osi h0;exact rO [] [4] rfl undef (cT rfl ResL.nil) rfl rfl rfl rfl
 refine T.condF rfl (eq_false_of_ne_true c3) ?_;refine aK rfl ?_;refine T.seq ?_;refine aS ?_;refine aA rfl rfl ?_;refine aN rfl ?_;rcases ite_some h0 with ⟨c5,h0⟩|⟨c5,h0⟩
 ·refine T.condT rfl (c5) ?_;refine aS ?_;refine aA rfl rfl ?_;refine aN rfl ?_;refine T.ret ?_;obtain rfl:=osi h0;exact rO [] [4] rfl undef (cT rfl ResL.nil) rfl rfl rfl rfl
 refine T.condF rfl (eq_false_of_ne_true c5) ?_;refine aK rfl ?_;refine T.seq ?_;refine aS ?_;iterate 3 refine aA rfl rfl ?_
 refine aN rfl ?_;rcases ite_some h0 with ⟨c6,h0⟩|⟨c6,h0⟩
 ·refine T.condT rfl (eT c6) ?_;refine aS ?_;refine aA rfl rfl ?_;refine aN rfl ?_;refine T.ret ?_;obtain rfl:=osi h0;exact rO [] [4] rfl undef (cT rfl ResL.nil) rfl rfl rfl rfl
 refine T.condF rfl (eF c6) ?_;refine aK rfl ?_;refine T.seq ?_;refine aS ?_;iterate 3 refine aA rfl rfl ?_
 refine aN rfl ?_;rcases ite_some h0 with ⟨c7,h0⟩|⟨c7,h0⟩
 ·refine T.condT rfl (eT c7) ?_;refine aS ?_;refine aA rfl rfl ?_;refine aN rfl ?_;refine T.ret ?_;obtain rfl:=osi h0;exact rO [] [4] rfl undef (cT rfl ResL.nil) rfl rfl rfl rfl
 refine T.condF rfl (eF c7) ?_;refine aK rfl ?_;refine aS ?_;refine aA rfl rfl ?_;refine aN rfl ?_;refine T.ret ?_;obtain rfl:=osi h0;exact rO [] [4] rfl undef (cT rfl ResL.nil) rfl rfl rfl rfl
noncomputable def cmp_isNaN_byte (a0:UInt8):Option Bool:=
 some (!((a0.toNat:Int)==(a0.toNat:Int)))
theorem cmp_isNaN_byte_c {a0:UInt8} {res:Bool} (h0:cmp_isNaN_byte a0=some res):CallF X 263 [.val (.int .u8 (a0.toNat:Int))] [] (fun x=>(dT res)) (fun x=>[]):=by
 unfold cmp_isNaN_byte at h0;refine CallF.mkG (X:=X) rfl Tryz.func263 rfl rfl Tryz.ntmps263 rfl rfl ?_;refine aS ?_;refine aA rfl rfl ?_;refine aN rfl ?_;refine aS ?_;iterate 4 refine aA rfl rfl ?_
 refine aN rfl ?_;refine T.ret ?_;obtain rfl:=osi h0;exact rO [] [2] rfl undef (cT rfl ResL.nil) rfl rfl rfl rfl
noncomputable def cmp_Compare_byte (a0:UInt8) (a1:UInt8):Option Int:=
 bnd (cmp_isNaN_byte a0) fun x1=>
 bnd (cmp_isNaN_byte a1) fun x2=>
 if x1=true then
 if x2=true then
 some 0
else
 some (-1)
else
 if x2=true then
 some 1
else
 if (a0.toNat:Int)<(a1.toNat:Int) then
 some (-1)
else
 if (a0.toNat:Int)>(a1.toNat:Int) then
 some 1
else
 some 0
theorem cmp_Compare_byte_c {a0:UInt8} {a1:UInt8} {res:Int} (h0:cmp_Compare_byte a0 a1=some res):CallF X 240 [.val (.int .u8 (a0.toNat:Int)),.val (.int .u8 (a1.toNat:Int))] [] (fun x=>(dN res)) (fun x=>[]):=by
 unfold cmp_Compare_byte at h0;refine CallF.mkG (X:=X) rfl Tryz.func240 rfl rfl Tryz.ntmps240 rfl rfl ?_;refine aS ?_;refine aA rfl rfl ?_;refine aN rfl ?_;refine aS ?_;refine aA rfl rfl ?_;obtain⟨x1,hx1,h0⟩:=bS h0;refine TL.op1 (OpR.call0 fn263 (cmp_isNaN_byte_c hx1) rfl) rfl ?_;refine aA rfl rfl ?_;refine aN rfl ?_;refine aS ?_;refine aA rfl rfl ?_;obtain⟨x2,hx2,h0⟩:=bS h0;refine TL.op1 (OpR.call0 fn263 (cmp_isNaN_byte_c hx2) rfl) rfl ?_;refine aA rfl rfl ?_;refine aN rfl ?_;refine T.seq ?_;refine aS ?_;refine aA rfl rfl ?_;refine aN rfl ?_;rcases ite_some h0 with ⟨c3,h0⟩|⟨c3,h0⟩
 ·refine T.condT rfl (c3) ?_;refine T.seq ?_;refine aS ?_;refine aA rfl rfl ?_;refine aN rfl ?_;rcases ite_some h0 with ⟨c4,h0⟩|⟨c4,h0⟩
  ·refine T.condT rfl (c4) ?_;refine aS ?_;refine aA rfl rfl ?_;refine aN rfl ?_;refine T.ret ?_;obtain rfl:=osi h0;exact rO [] [4] rfl undef (cT rfl ResL.nil) rfl rfl rfl rfl
  refine T.condF rfl (eq_false_of_ne_true c4) ?_;refine aK rfl ?_;refine aS ?_;refine aA rfl rfl ?_;refine aN rfl ?_;refine T.ret ?_;obtain rfl:=osi h0;exact rO [] [4] rfl undef (cT rfl ResL.nil) rfl rfl rfl rfl
 refine T.condF rfl (eq_false_of_ne_true c3) ?_;refine aK rfl ?_;refine T.seq ?_;refine aS ?_;refine aA rfl rfl ?_;refine aN rfl ?_;rcases ite_some h0 with ⟨c5,h0⟩|⟨c5,h0⟩
 ·refine T.condT rfl (c5) ?_;refine aS ?_;refine aA rfl rfl ?_;refine aN rfl ?_;refine T.ret ?_;obtain rfl:=osi h0;exact rO [] [4] rfl undef (cT rfl ResL.nil) rfl rfl rfl rfl
 refine T.condF rfl (eq_false_of_ne_true c5) ?_;refine aK rfl ?_;refine T.seq ?_;refine aS ?_;iterate 3 refine aA rfl rfl ?_
 refine aN rfl ?_;rcases ite_some h0 with ⟨c6,h0⟩|⟨c6,h0⟩
 ·refine T.condT rfl (eT c6) ?_;refine aS ?_;refine aA rfl rfl ?_;refine aN rfl ?_;refine T.ret ?_;obtain rfl:=osi h0;exact rO [] [4] rfl undef (cT rfl ResL.nil) rfl rfl rfl rfl
 refine T.condF rfl (eF c6) ?_;refine aK rfl ?_;refine T.seq ?_;refine aS ?_;iterate 3 refine aA rfl rfl ?_
 refine aN rfl ?_;rcases ite_some h0 with ⟨c7,h0⟩|⟨c7,h0⟩
 ·refine T.condT rfl (eT c7) ?_;refine aS ?_;refine aA rfl rfl ?_;refine aN rfl ?_;refine T.ret ?_;obtain rfl:=osi h0;exact rO [] [4] rfl undef (cT rfl ResL.nil) rfl rfl rfl rfl
 refine T.condF rfl (eF c7) ?_;refine aK rfl ?_;refine aS ?_;refine aA rfl rfl ?_;refine aN rfl ?_;refine T.ret ?_;obtain rfl:=osi h0;exact rO [] [4] rfl undef (cT rfl ResL.nil) rfl rfl rfl rfl
noncomputable def num_bytewise.l1 (a0:List UInt8) (a1:List UInt8) (s12:Int):Option (Lp Int Int):=
 if s12<(a0.length:Int) then
 bnd (idx a0 s12) fun x21=>
 if s12=(a1.length:Int) then
 some (Lp.done 1)
else
 bnd (idx a1 s12) fun x23=>
 if (x21.toNat:Int)=(x23.toNat:Int) then
 some (Lp.next (w64 (s12+1)))
else
 bnd (cmp_Compare_byte x21 x23) fun x25=>
 some (Lp.done x25)
else
 some (Lp.done 0)
noncomputable def num_bytewise.l2 (a0:List UInt8) (a1:List UInt8) (s3:Unit):Option (Lp Unit Int):=
 bnd (loop (num_bytewise.l1 a0 a1) 0:Option Int) fun t11=>
 bnd (if t11=0 then
 some (decide ((a0.length:Int)<(a1.length:Int)))
else
 some false:Option Bool) fun t26=>
 if t26=true then
 some (Lp.done (-1))
else
 some (Lp.done t11)
noncomputable def num_bytewise (a0:List UInt8) (a1:List UInt8):Option Int:=
 loop (num_bytewise.l2 a0 a1) ()
theorem num_bytewise_c {a0:List UInt8} {a1:List UInt8} {res:Int} (h0:num_bytewise a0 a1=some res):CallF X 214 [.sl 1 (lB a0),.sl 1 (lB a1)] [] (fun x=>(dN res)) (fun x=>[]):=by
 unfold num_bytewise at h0;refine CallF.mkG (X:=X) rfl Tryz.func214 rfl rfl Tryz.ntmps214 rfl rfl ?_;refine aS ?_;refine aA rfl rfl ?_;refine aN rfl ?_;refine T.scope rfl 0 rfl ?_;refine aS ?_;refine aA rfl rfl ?_;refine aN rfl ?_;refine T.seq ?_;refine T.label ?_;show T X _ _ _;obtain⟨n4,n9⟩:=loop_some h0;refine T.atLabelS rfl ?_ (fun n S'=>∃ S'',Gst S' S''∧∃ s3:Unit,S''=⟨[(5,(dN 0)),(4,(dN 0)),(1,.sl 1 (lB a1)),(0,.sl 1 (lB a0))],[],44⟩∧iter (num_bytewise.l2 a0 a1) n s3=some res) n4 ?_ ?_
 ·rfl
 ·exact⟨_,Gst.only [0,1,4,5] rfl,(),rfl,n9⟩
 rintro n4 _ ⟨_,g,s3,rfl,i8⟩;refine T.ghost g ?_;obtain⟨m5,q6,rfl,q7,i8⟩:=iter_succ i8;unfold num_bytewise.l2 at q7;refine T.seq ?_;refine aS ?_;refine aA rfl rfl ?_;refine TL.op1 (OpR.cast (OpR.pure rfl) (intE (lenM _ _))) rfl ?_;refine aA rfl rfl ?_;refine aN rfl ?_;obtain⟨t11,ht11,q7⟩:=bS q7;refine T.cutC (fun S'=>S'=⟨[(5,(dN t11)),(4,(dN 0)),(1,.sl 1 (lB a1)),(0,.sl 1 (lB a0))],[],44⟩) (fun _ h=>h) ?_ ?_;rotate_left
 ·rintro _ rfl;show T X _ _ _;refine T.seq ?_;refine T.seq ?_;obtain⟨t26,ht26,q7⟩:=bS q7;refine T.cutC (fun S'=>S'=⟨[(42,(dT t26)),(5,(dN t11)),(4,(dN 0)),(1,.sl 1 (lB a1)),(0,.sl 1 (lB a0))],[],44⟩) (fun _ h=>h) ?_ ?_;rotate_left
  ·rintro _ rfl;show T X _ _ _;rcases ite_some q7 with ⟨c28,q7⟩|⟨c28,q7⟩
   ·refine T.condT rfl (c28) ?_;refine aS ?_;refine aA rfl rfl ?_;refine aN rfl ?_;refine T.ret ?_;obtain rfl:=osi q7;obtain rfl:_=_:=i8;exact rO [] [4] rfl undef (cT rfl ResL.nil) rfl rfl rfl rfl
   refine T.condF rfl (eq_false_of_ne_true c28) ?_;refine aK rfl ?_;refine aS ?_;iterate 2 refine aA rfl rfl ?_
   refine aN rfl ?_;refine T.ret ?_;obtain rfl:=osi q7;obtain rfl:_=_:=i8;exact rO [] [4] rfl undef (cT rfl ResL.nil) rfl rfl rfl rfl
  refine T.region ?_;iterate 3 refine aA rfl rfl ?_
  rcases ite_some ht26 with ⟨c27,ht26⟩|⟨c27,ht26⟩;rotate_left
  ·refine TL.off rfl rfl rfl rfl (beq_eq_false_iff_ne.2 c27) rfl rfl ?_;refine TL.off rfl rfl rfl rfl (beq_eq_false_iff_ne.2 c27) rfl rfl ?_;refine TL.off rfl rfl rfl rfl (beq_eq_false_iff_ne.2 c27) rfl rfl ?_;refine TL.off rfl rfl rfl rfl (beq_eq_false_iff_ne.2 c27) rfl rfl ?_;refine TL.off rfl rfl rfl rfl (beq_eq_false_iff_ne.2 c27) rfl rfl ?_;refine TL.op1 (OpR.pickF rfl (beq_eq_false_iff_ne.2 c27) rfl) rfl ?_;refine TL.nil ?_;obtain rfl:=osi ht26;exact⟨_,Gst.only [0,1,4,5,42] rfl,rfl⟩
  refine TL.on rfl rfl rfl rfl (beq_iff_eq.2 c27) ?_;refine aA rfl rfl ?_;refine TL.on rfl rfl rfl rfl (beq_iff_eq.2 c27) ?_;refine TL.op1 (OpR.cast (OpR.pure rfl) (intE (lenM _ _))) rfl ?_;refine TL.on rfl rfl rfl rfl (beq_iff_eq.2 c27) ?_;refine aA rfl rfl ?_;refine TL.on rfl rfl rfl rfl (beq_iff_eq.2 c27) ?_;refine TL.op1 (OpR.cast (OpR.pure rfl) (intE (lenM _ _))) rfl ?_;refine TL.on rfl rfl rfl rfl (beq_iff_eq.2 c27) ?_;refine aA rfl rfl ?_;refine TL.op1 (OpR.pickT rfl (beq_iff_eq.2 c27) rfl) rfl ?_;refine TL.nil ?_;obtain rfl:=osi ht26;exact⟨_,Gst.only [0,1,4,5,42] rfl,rfl⟩
 refine T.block ?_;obtain⟨n13,n18⟩:=loop_some ht11;refine T.loop (fun n S'=>∃ S'',Gst S' S''∧∃ s12:Int,S''=⟨[(10,(dN s12)),(9,(dN (a0.length:Int))),(8,.sl 1 (lB a0)),(5,(dN 0)),(4,(dN 0)),(1,.sl 1 (lB a1)),(0,.sl 1 (lB a0))],[],44⟩∧iter (num_bytewise.l1 a0 a1) n s12=some t11) n13 ?_ ?_
 ·exact⟨_,Gst.only [0,1,4,5,8,9,10] rfl,0,rfl,n18⟩
 rintro n13 _ ⟨_,g,s12,rfl,i17⟩;refine T.ghost g ?_;obtain⟨m14,q15,rfl,q16,i17⟩:=iter_succ i17;unfold num_bytewise.l1 at q16;refine aS ?_;refine aA rfl rfl ?_;refine aN rfl ?_;refine T.seq ?_;rcases ite_some q16 with ⟨c20,q16⟩|⟨c20,q16⟩;rotate_left
 ·refine T.condF rfl (eF c20) ?_;refine T.exit ?_;obtain rfl:=osi q16;obtain rfl:_=_:=i17;exact⟨_,Gst.only [0,1,4,5] rfl,rfl⟩
 refine T.condT rfl (eT c20) ?_;refine aK rfl ?_;refine T.seq ?_;refine T.block ?_;refine aS ?_;refine aA rfl rfl ?_;obtain⟨x21,hx21,q16⟩:=bS q16;refine TL.op1 (OpR.indexM byteD hx21 rfl rfl rfl rfl rfl) rfl ?_;iterate 3 refine aA rfl rfl ?_
 refine aN rfl ?_;refine T.block ?_;refine aS ?_;iterate 2 refine aA rfl rfl ?_
 refine TL.op1 (OpR.cast (OpR.pure rfl) (intE (lenM _ _))) rfl ?_;iterate 2 refine aA rfl rfl ?_
 refine aN rfl ?_;rcases ite_some q16 with ⟨c22,q16⟩|⟨c22,q16⟩
 ·refine T.condT rfl (beq_iff_eq.2 c22) ?_;refine aS ?_;refine aA rfl rfl ?_;refine aN rfl ?_;refine T.exit ?_;obtain rfl:=osi q16;obtain rfl:_=_:=i17;exact⟨_,Gst.only [0,1,4,5] rfl,rfl⟩
 refine T.condF rfl (beq_eq_false_iff_ne.2 c22) ?_;refine aS ?_;iterate 3 refine aA rfl rfl ?_
 obtain⟨x23,hx23,q16⟩:=bS q16;refine TL.op1 (OpR.indexM byteD hx23 rfl rfl rfl rfl rfl) rfl ?_;iterate 3 refine aA rfl rfl ?_
 refine aN rfl ?_;rcases ite_some q16 with ⟨c24,q16⟩|⟨c24,q16⟩
 ·refine T.condF rfl (not_t (beq_iff_eq.2 c24)) ?_;refine aK rfl ?_;refine T.region ?_;iterate 2 refine aA rfl rfl ?_
  refine TL.nil ?_;obtain rfl:=osi q16;exact⟨m14,Nat.lt_succ_self _,_,Gst.only [0,1,4,5,8,9,10] rfl,w64 (s12+1),rfl,i17⟩
 refine T.condT rfl (not_f (beq_eq_false_iff_ne.2 c24)) ?_;refine aS ?_;iterate 3 refine aA rfl rfl ?_
 refine TL.op1 (OpR.indexM byteD hx23 rfl rfl rfl rfl rfl) rfl ?_;refine aA rfl rfl ?_;obtain⟨x25,hx25,q16⟩:=bS q16;refine TL.op1 (OpR.call0 fn240 (cmp_Compare_byte_c hx25) rfl) rfl ?_;refine aA rfl rfl ?_;refine aN rfl ?_;refine T.exit ?_;obtain rfl:=osi q16;obtain rfl:_=_:=i17;exact⟨_,Gst.only [0,1,4,5] rfl,rfl⟩
noncomputable def num_Compare (a0:List UInt8) (a1:List UInt8):Option Int:=
 bnd (num_Parse a0) fun x1=>
 bnd (num_Parse a1) fun x2=>
 bnd (if x1.2=true then
 some x2.2
else
 some false:Option Bool) fun t3=>
 if t3=true then
 bnd (cmp_Compare_int x1.1 x2.1) fun x6=>
 some x6
else
 if x1.2=true then
 some (-1)
else
 if x2.2=true then
 some 1
else
 bnd (num_bytewise a0 a1) fun x9=>
 some x9
theorem num_Compare_c {a0:List UInt8} {a1:List UInt8} {res:Int} (h0:num_Compare a0 a1=some res):CallF X 171 [.sl 1 (lB a0),.sl 1 (lB a1)] [] (fun x=>(dN res)) (fun x=>[]):=by
 unfold num_Compare at h0;refine CallF.mkG (X:=X) rfl Tryz.func171 rfl rfl Tryz.ntmps171 rfl rfl ?_;refine aS ?_;refine aA rfl rfl ?_;refine aN rfl ?_;refine aS ?_;refine aA rfl rfl ?_;obtain⟨x1,hx1,h0⟩:=bS h0;refine TL.op1 (OpR.call0 fn212 (num_Parse_c hx1) rfl) rfl ?_;iterate 5 refine aA rfl rfl ?_
 refine aN rfl ?_;refine aS ?_;refine aA rfl rfl ?_;obtain⟨x2,hx2,h0⟩:=bS h0;refine TL.op1 (OpR.call0 fn212 (num_Parse_c hx2) rfl) rfl ?_;iterate 5 refine aA rfl rfl ?_
 refine aN rfl ?_;refine T.seq ?_;refine T.block ?_;refine T.seq ?_;obtain⟨t3,ht3,h0⟩:=bS h0;refine T.cutC (fun S'=>S'=⟨[(19,(dT t3)),(8,(dT x2.2)),(7,(dN x2.1)),(6,(dT x1.2)),(5,(dN x1.1)),(4,(dN 0)),(1,.sl 1 (lB a1)),(0,.sl 1 (lB a0))],[],34⟩) (fun _ h=>h) ?_ ?_
 ·refine T.region ?_;iterate 2 refine aA rfl rfl ?_
  rcases ite_some ht3 with ⟨c4,ht3⟩|⟨c4,ht3⟩
  ·refine TL.on rfl rfl rfl rfl (c4) ?_;refine aA rfl rfl ?_;refine TL.op1 (OpR.pickT rfl (c4) rfl) rfl ?_;refine aA rfl rfl ?_;refine TL.nil ?_;obtain rfl:=osi ht3;exact⟨_,Gst.only [0,1,4,5,6,7,8,19] rfl,rfl⟩
  refine TL.off rfl rfl rfl rfl (eq_false_of_ne_true c4) rfl rfl ?_;refine TL.op1 (OpR.pickF rfl (eq_false_of_ne_true c4) rfl) rfl ?_;refine aA rfl rfl ?_;refine TL.nil ?_;obtain rfl:=osi ht3;exact⟨_,Gst.only [0,1,4,5,6,7,8,19] rfl,rfl⟩
 rintro _ rfl;show T X _ _ _;rcases ite_some h0 with ⟨c5,h0⟩|⟨c5,h0⟩
 ·refine T.condT rfl (c5) ?_;refine aS ?_;iterate 2 refine aA rfl rfl ?_
  obtain⟨x6,hx6,h0⟩:=bS h0;refine TL.op1 (OpR.call0 fn213 (cmp_Compare_int_c hx6) rfl) rfl ?_;refine aA rfl rfl ?_;refine aN rfl ?_;refine T.ret ?_;obtain rfl:=osi h0;exact rO [] [4] rfl undef (cT rfl ResL.nil) rfl rfl rfl rfl
 refine T.condF rfl (eq_false_of_ne_true c5) ?_;refine aS ?_;iterate 2 refine aA rfl rfl ?_
 refine aN rfl ?_;rcases ite_some h0 with ⟨c7,h0⟩|⟨c7,h0⟩
 ·refine T.condT rfl (c7) ?_;refine aS ?_;refine aA rfl rfl ?_;refine aN rfl ?_;refine T.ret ?_;obtain rfl:=osi h0;exact rO [] [4] rfl undef (cT rfl ResL.nil) rfl rfl rfl rfl
 refine T.condF rfl (eq_false_of_ne_true c7) ?_;refine aS ?_;iterate 2 refine aA rfl rfl ?_
 refine aN rfl ?_;rcases ite_some h0 with ⟨c8,h0⟩|⟨c8,h0⟩
 ·refine T.condT rfl (c8) ?_;refine aS ?_;refine aA rfl rfl ?_;refine aN rfl ?_;refine T.ret ?_;obtain rfl:=osi h0;exact rO [] [4] rfl undef (cT rfl ResL.nil) rfl rfl rfl rfl
 refine T.condF rfl (eq_false_of_ne_true c8) ?_;refine aK rfl ?_;refine aS ?_;iterate 2 refine aA rfl rfl ?_
 obtain⟨x9,hx9,h0⟩:=bS h0;refine TL.op1 (OpR.call0 fn214 (num_bytewise_c hx9) rfl) rfl ?_;refine aA rfl rfl ?_;refine aN rfl ?_;refine T.ret ?_;obtain rfl:=osi h0;exact rO [] [4] rfl undef (cT rfl ResL.nil) rfl rfl rfl rfl
noncomputable def filter_of_2 (a0:List UInt8) (a1:List UInt8):Option Bool:=
 bnd (num_Compare a0 a1) fun x1=>
 some (decide (x1<0))
theorem filter_of_2_c {a0:List UInt8} {a1:List UInt8} {res:Bool} (h0:filter_of_2 a0 a1=some res):CallF X 178 [.sl 1 (lB a0),.sl 1 (lB a1)] [] (fun x=>(dT res)) (fun x=>[]):=by
 unfold filter_of_2 at h0;refine CallF.mkG (X:=X) rfl Tryz.func178 rfl rfl Tryz.ntmps178 rfl rfl ?_;refine aS ?_;refine aA rfl rfl ?_;refine aN rfl ?_;refine aS ?_;iterate 2 refine aA rfl rfl ?_
 obtain⟨x1,hx1,h0⟩:=bS h0;refine TL.op1 (OpR.call0 fn171 (num_Compare_c hx1) rfl) rfl ?_;iterate 2 refine aA rfl rfl ?_
 refine aN rfl ?_;refine T.ret ?_;obtain rfl:=osi h0;exact rO [] [4] rfl undef (cT rfl ResL.nil) rfl rfl rfl rfl
noncomputable def filter_of_3 (a0:List UInt8) (a1:List UInt8):Option Bool:=
 bnd (num_Compare a0 a1) fun x1=>
 some (decide (x1>0))
theorem filter_of_3_c {a0:List UInt8} {a1:List UInt8} {res:Bool} (h0:filter_of_3 a0 a1=some res):CallF X 179 [.sl 1 (lB a0),.sl 1 (lB a1)] [] (fun x=>(dT res)) (fun x=>[]):=by
 unfold filter_of_3 at h0;refine CallF.mkG (X:=X) rfl Tryz.func179 rfl rfl Tryz.ntmps179 rfl rfl ?_;refine aS ?_;refine aA rfl rfl ?_;refine aN rfl ?_;refine aS ?_;iterate 2 refine aA rfl rfl ?_
 obtain⟨x1,hx1,h0⟩:=bS h0;refine TL.op1 (OpR.call0 fn171 (num_Compare_c hx1) rfl) rfl ?_;iterate 2 refine aA rfl rfl ?_
 refine aN rfl ?_;refine T.ret ?_;obtain rfl:=osi h0;exact rO [] [4] rfl undef (cT rfl ResL.nil) rfl rfl rfl rfl
noncomputable def bytes_HasPrefix (a0:List UInt8) (a1:List UInt8):Option Bool:=
 bnd (if (a0.length:Int)≥(a1.length:Int) then
 bnd (cut a0 0 (a1.length:Int)) fun x3=>
 bnd (bytes_Equal x3 a1) fun x4=>
 some x4
else
 some false:Option Bool) fun t1=>
 some t1
theorem bytes_HasPrefix_c {a0:List UInt8} {a1:List UInt8} {res:Bool} (h0:bytes_HasPrefix a0 a1=some res):CallF X 180 [.sl 1 (lB a0),.sl 1 (lB a1)] [] (fun x=>(dT res)) (fun x=>[]):=by
 unfold bytes_HasPrefix at h0;refine CallF.mkG (X:=X) rfl Tryz.func180 rfl rfl Tryz.ntmps180 rfl rfl ?_;refine aS ?_;refine aA rfl rfl ?_;refine aN rfl ?_;refine T.seq ?_;obtain⟨t1,ht1,h0⟩:=bS h0;refine T.cutC (fun S'=>S'=⟨[(4,(dT t1))],[],18⟩) (fun _ h=>h) ?_ ?_;rotate_left
 ·rintro _ rfl;show T X _ _ _;refine T.ret ?_;obtain rfl:=osi h0;exact rO [] [4] rfl undef (cT rfl ResL.nil) rfl rfl rfl rfl
 refine T.region ?_;refine aA rfl rfl ?_;refine TL.op1 (OpR.cast (OpR.pure rfl) (intE (lenM _ _))) rfl ?_;refine aA rfl rfl ?_;refine TL.op1 (OpR.cast (OpR.pure rfl) (intE (lenM _ _))) rfl ?_;iterate 2 refine aA rfl rfl ?_
 rcases ite_some ht1 with ⟨c2,ht1⟩|⟨c2,ht1⟩;rotate_left
 ·refine TL.off rfl rfl rfl rfl (eF c2) rfl rfl ?_;refine TL.off rfl rfl rfl rfl (eF c2) rfl rfl ?_;refine TL.off rfl rfl rfl rfl (eF c2) rfl rfl ?_;refine TL.off rfl rfl rfl rfl (eF c2) rfl rfl ?_;refine TL.off rfl rfl rfl rfl (eF c2) rfl rfl ?_;refine TL.off rfl rfl rfl rfl (eF c2) rfl rfl ?_;refine TL.op1 (OpR.pickF rfl (eF c2) rfl) rfl ?_;refine aA rfl rfl ?_;refine TL.nil ?_;obtain rfl:=osi ht1;exact⟨_,Gst.only [4] rfl,rfl⟩
 refine TL.on rfl rfl rfl rfl (eT c2) ?_;refine aA rfl rfl ?_;refine TL.on rfl rfl rfl rfl (eT c2) ?_;refine aA rfl rfl ?_;refine TL.on rfl rfl rfl rfl (eT c2) ?_;refine TL.op1 (OpR.cast (OpR.pure rfl) (intE (lenM _ _))) rfl ?_;refine TL.on rfl rfl rfl rfl (eT c2) ?_;obtain⟨x3,hx3,ht1⟩:=bS ht1;refine TL.op1 (OpR.sliceM (sz:=1) byteD hx3 rfl rfl rfl rfl BdM.none (BdM.some rfl) rfl) rfl ?_;refine TL.on rfl rfl rfl rfl (eT c2) ?_;refine aA rfl rfl ?_;refine TL.on rfl rfl rfl rfl (eT c2) ?_;obtain⟨x4,hx4,ht1⟩:=bS ht1;refine TL.op1 (OpR.call0 fn177 (bytes_Equal_c hx4) rfl) rfl ?_;refine TL.op1 (OpR.pickT rfl (eT c2) rfl) rfl ?_;refine aA rfl rfl ?_;refine TL.nil ?_;obtain rfl:=osi ht1;exact⟨_,Gst.only [4] rfl,rfl⟩
noncomputable def bytes_HasSuffix (a0:List UInt8) (a1:List UInt8):Option Bool:=
 bnd (if (a0.length:Int)≥(a1.length:Int) then
 bnd (cut a0 (w64 ((a0.length:Int)-(a1.length:Int))) (a0.length:Int)) fun x3=>
 bnd (bytes_Equal x3 a1) fun x4=>
 some x4
else
 some false:Option Bool) fun t1=>
 some t1
theorem bytes_HasSuffix_c {a0:List UInt8} {a1:List UInt8} {res:Bool} (h0:bytes_HasSuffix a0 a1=some res):CallF X 181 [.sl 1 (lB a0),.sl 1 (lB a1)] [] (fun x=>(dT res)) (fun x=>[]):=by
 unfold bytes_HasSuffix at h0;refine CallF.mkG (X:=X) rfl Tryz.func181 rfl rfl Tryz.ntmps181 rfl rfl ?_;refine aS ?_;refine aA rfl rfl ?_;refine aN rfl ?_;refine T.seq ?_;obtain⟨t1,ht1,h0⟩:=bS h0;refine T.cutC (fun S'=>S'=⟨[(4,(dT t1))],[],21⟩) (fun _ h=>h) ?_ ?_;rotate_left
 ·rintro _ rfl;show T X _ _ _;refine T.ret ?_;obtain rfl:=osi h0;exact rO [] [4] rfl undef (cT rfl ResL.nil) rfl rfl rfl rfl
 refine T.region ?_;refine aA rfl rfl ?_;refine TL.op1 (OpR.cast (OpR.pure rfl) (intE (lenM _ _))) rfl ?_;refine aA rfl rfl ?_;refine TL.op1 (OpR.cast (OpR.pure rfl) (intE (lenM _ _))) rfl ?_;iterate 2 refine aA rfl rfl ?_
 rcases ite_some ht1 with ⟨c2,ht1⟩|⟨c2,ht1⟩;rotate_left
 ·refine TL.off rfl rfl rfl rfl (eF c2) rfl rfl ?_;refine TL.off rfl rfl rfl rfl (eF c2) rfl rfl ?_;refine TL.off rfl rfl rfl rfl (eF c2) rfl rfl ?_;refine TL.off rfl rfl rfl rfl (eF c2) rfl rfl ?_;refine TL.off rfl rfl rfl rfl (eF c2) rfl rfl ?_;refine TL.off rfl rfl rfl rfl (eF c2) rfl rfl ?_;refine TL.off rfl rfl rfl rfl (eF c2) rfl rfl ?_;refine TL.off rfl rfl rfl rfl (eF c2) rfl rfl ?_;refine TL.off rfl rfl rfl rfl (eF c2) rfl rfl ?_;refine TL.op1 (OpR.pickF rfl (eF c2) rfl) rfl ?_;refine aA rfl rfl ?_;refine TL.nil ?_;obtain rfl:=osi ht1;exact⟨_,Gst.only [4] rfl,rfl⟩
 refine TL.on rfl rfl rfl rfl (eT c2) ?_;refine aA rfl rfl ?_;refine TL.on rfl rfl rfl rfl (eT c2) ?_;refine aA rfl rfl ?_;refine TL.on rfl rfl rfl rfl (eT c2) ?_;refine TL.op1 (OpR.cast (OpR.pure rfl) (intE (lenM _ _))) rfl ?_;refine TL.on rfl rfl rfl rfl (eT c2) ?_;refine aA rfl rfl ?_;refine TL.on rfl rfl rfl rfl (eT c2) ?_;refine TL.op1 (OpR.cast (OpR.pure rfl) (intE (lenM _ _))) rfl ?_;refine TL.on rfl rfl rfl rfl (eT c2) ?_;refine aA rfl rfl ?_;refine TL.on rfl rfl rfl rfl (eT c2) ?_;obtain⟨x3,hx3,ht1⟩:=bS ht1;refine TL.op1 (OpR.sliceM (sz:=1) byteD hx3 rfl rfl rfl rfl (BdM.some rfl) BdM.none rfl) rfl ?_;refine TL.on rfl rfl rfl rfl (eT c2) ?_;refine aA rfl rfl ?_;refine TL.on rfl rfl rfl rfl (eT c2) ?_;obtain⟨x4,hx4,ht1⟩:=bS ht1;refine TL.op1 (OpR.call0 fn177 (bytes_Equal_c hx4) rfl) rfl ?_;refine TL.op1 (OpR.pickT rfl (eT c2) rfl) rfl ?_;refine aA rfl rfl ?_;refine TL.nil ?_;obtain rfl:=osi ht1;exact⟨_,Gst.only [4] rfl,rfl⟩
noncomputable def filter_of_4 (a0:List UInt8) (a1:List UInt8):Option Bool:=
 some ((a0.length:Int)==0)
theorem filter_of_4_c {a0:List UInt8} {a1:List UInt8} {res:Bool} (h0:filter_of_4 a0 a1=some res):CallF X 182 [.sl 1 (lB a0),.sl 1 (lB a1)] [] (fun x=>(dT res)) (fun x=>[]):=by
 unfold filter_of_4 at h0;refine CallF.mkG (X:=X) rfl Tryz.func182 rfl rfl Tryz.ntmps182 rfl rfl ?_;refine aS ?_;refine aA rfl rfl ?_;refine aN rfl ?_;refine aS ?_;refine aA rfl rfl ?_;refine TL.op1 (OpR.cast (OpR.pure rfl) (intE (lenM _ _))) rfl ?_;iterate 2 refine aA rfl rfl ?_
 refine aN rfl ?_;refine T.ret ?_;obtain rfl:=osi h0;exact rO [] [4] rfl undef (cT rfl ResL.nil) rfl rfl rfl rfl
noncomputable def filter_Holds (a0:row_Row) (a1:filter_Test) (a2:List UInt8):Option Bool:=
 bnd (row_Row_At a0 a1.fCol) fun x1=>
 bnd (filter_of a1.fOp) fun x4=>
 match x4 with
| .inl x4=>
 bnd (cell_Cell_Bytes x1.1 a2) fun x5=>
 bnd (filter_of_1 x5 a1.fArg) fun x6=>
 some (!(x6==a1.fNot))
| .inr (.inl x4)=>
 bnd (cell_Cell_Bytes x1.1 a2) fun x7=>
 bnd (bytes_Equal x7 a1.fArg) fun x8=>
 some (!(x8==a1.fNot))
| .inr (.inr (.inl x4))=>
 bnd (cell_Cell_Bytes x1.1 a2) fun x9=>
 bnd (filter_of_2 x9 a1.fArg) fun x10=>
 some (!(x10==a1.fNot))
| .inr (.inr (.inr (.inl x4)))=>
 bnd (cell_Cell_Bytes x1.1 a2) fun x11=>
 bnd (filter_of_3 x11 a1.fArg) fun x12=>
 some (!(x12==a1.fNot))
| .inr (.inr (.inr (.inr (.inl x4))))=>
 bnd (cell_Cell_Bytes x1.1 a2) fun x13=>
 bnd (bytes_HasPrefix x13 a1.fArg) fun x14=>
 some (!(x14==a1.fNot))
| .inr (.inr (.inr (.inr (.inr (.inl x4)))))=>
 bnd (cell_Cell_Bytes x1.1 a2) fun x15=>
 bnd (bytes_HasSuffix x15 a1.fArg) fun x16=>
 some (!(x16==a1.fNot))
| .inr (.inr (.inr (.inr (.inr (.inr x4)))))=>
 bnd (cell_Cell_Bytes x1.1 a2) fun x17=>
 bnd (filter_of_4 x17 a1.fArg) fun x18=>
 some (!(x18==a1.fNot))
theorem filter_Holds_c {a0:row_Row} {a1:filter_Test} {a2:List UInt8} {b0:Nat} {v1:Value} {res:Bool} (h0:filter_Holds a0 a1 a2=some res):CallF X 44 [.agg [.sl 5 (List.map e_cell_Cell a0.fCells),dN a0.fEnd,dT a0.fHidden],dP b0,.agg [dN a1.fCol,dN a1.fOp,.val (.string (bs a1.fArg)),dT a1.fNot]] [.var b0 [.val v1] 264,.row v1 (lB a2) 1 5] (fun x=>(dT res)) (fun x=>[.var b0 [.val v1] 264,.row v1 (lB a2) 1 5]):=by
 unfold filter_Holds at h0;refine CallF.mkG (X:=X) rfl Tryz.func44 rfl rfl Tryz.ntmps44 rfl rfl ?_;refine aS ?_;refine TL.op1 (OpR.boxImm rfl rfl) rfl ?_;refine TL.op1 (OpR.boxImm rfl rfl) rfl ?_;refine aA rfl rfl ?_;refine aN rfl ?_;refine aS ?_;iterate 3 refine aA rfl rfl ?_
 obtain⟨x1,hx1,h0⟩:=bS h0;refine TL.op1 (OpR.call0 fn111 (row_Row_At_c hx1) rfl) rfl ?_;iterate 3 refine aA rfl rfl ?_
 refine TL.op (OpR.alloc rfl rfl (fun _=>rfl)) rfl (fun p2=>?_);refine TL.op0 (OpR.store 2 rfl rfl rfl rfl rfl rfl rfl rfl) ?_;refine aA rfl rfl ?_;refine aN rfl ?_;refine T.seq ?_;obtain⟨x4,hx4,h0⟩:=bS h0;rcases x4 with x4|(x4|(x4|(x4|(x4|(x4|x4)))))
 ·dsimp only at h0;obtain⟨x5,hx5,h0⟩:=bS h0;obtain⟨x6,hx6,h0⟩:=bS h0;refine T.drawQ drawsX [.nod [dN a1.fOp,.val (.string (bs a1.fArg)),dT a1.fNot],dN a1.fOp,.agg [.fn (.func 175) [] []],.fn (.func 175) [] [],.agg [.sl 2 (List.map e_arena_Span x1.1.fText.fL),dN x1.1.fText.fN,dN x1.1.fRaw.fAt,dN x1.1.fRaw.fN,dT x1.1.fKept],dP b0,.sl 1 (lB x5),.nod [.val (.string (bs a1.fArg)),dT a1.fNot],.val (.string (bs a1.fArg)),.sl 1 (lB a1.fArg),dT x6,.nod [dT a1.fNot],dT a1.fNot,dT (!(x6==a1.fNot)),dT (!(x6==a1.fNot))] [6] (by decide +kernel) rfl ?_ rfl ?_;rotate_left
  ·show T X _ _ _;refine T.ret ?_;obtain rfl:=osi h0;exact rP [0,1] [6] [0,1] rfl rfl rfl undef (cT rfl ResL.nil) rfl rfl rfl rfl
  iterate 2 refine aB rfl rfl rfl ?_
  refine OpsQ.yes (Want.plain rfl) rfl (OpR.call0 fn112 (filter_of_cx1 hx4) rfl) ?_;refine aB rfl rfl rfl ?_;refine OpsQ.yes (Want.plain rfl) rfl (OpR.loadPtr 2 rfl rfl rfl rfl) ?_;refine aB rfl rfl rfl ?_;refine OpsQ.yes (Want.plain rfl) rfl (OpR.call [0,1] fn113 (cell_Cell_Bytes_c hx5) rfl rfl rfl (fun _=>rfl)) ?_;iterate 2 refine aB rfl rfl rfl ?_
  refine OpsQ.yes (Want.plain rfl) rfl (OpR.toBytesM rfl rfl rfl rfl rfl rfl rfl) ?_;refine OpsQ.yes (Want.plain rfl) rfl (OpR.callV [] rfl fn175 (filter_of_1_c hx6) rfl rfl rfl (fun _=>rfl)) ?_;iterate 2 refine aB rfl rfl rfl ?_
  refine OpsQ.yes (Want.plain rfl) rfl (OpR.neBool rfl rfl rfl rfl) ?_;refine aB rfl rfl rfl ?_;exact OpsQ.nil
 ·dsimp only at h0;obtain⟨x7,hx7,h0⟩:=bS h0;obtain⟨x8,hx8,h0⟩:=bS h0;refine T.drawQ drawsX [.nod [dN a1.fOp,.val (.string (bs a1.fArg)),dT a1.fNot],dN a1.fOp,.agg [.fn (.func 177) [] []],.fn (.func 177) [] [],.agg [.sl 2 (List.map e_arena_Span x1.1.fText.fL),dN x1.1.fText.fN,dN x1.1.fRaw.fAt,dN x1.1.fRaw.fN,dT x1.1.fKept],dP b0,.sl 1 (lB x7),.nod [.val (.string (bs a1.fArg)),dT a1.fNot],.val (.string (bs a1.fArg)),.sl 1 (lB a1.fArg),dT x8,.nod [dT a1.fNot],dT a1.fNot,dT (!(x8==a1.fNot)),dT (!(x8==a1.fNot))] [6] (by decide +kernel) rfl ?_ rfl ?_;rotate_left
  ·show T X _ _ _;refine T.ret ?_;obtain rfl:=osi h0;exact rP [0,1] [6] [0,1] rfl rfl rfl undef (cT rfl ResL.nil) rfl rfl rfl rfl
  iterate 2 refine aB rfl rfl rfl ?_
  refine OpsQ.yes (Want.plain rfl) rfl (OpR.call0 fn112 (filter_of_cx2 hx4) rfl) ?_;refine aB rfl rfl rfl ?_;refine OpsQ.yes (Want.plain rfl) rfl (OpR.loadPtr 2 rfl rfl rfl rfl) ?_;refine aB rfl rfl rfl ?_;refine OpsQ.yes (Want.plain rfl) rfl (OpR.call [0,1] fn113 (cell_Cell_Bytes_c hx7) rfl rfl rfl (fun _=>rfl)) ?_;iterate 2 refine aB rfl rfl rfl ?_
  refine OpsQ.yes (Want.plain rfl) rfl (OpR.toBytesM rfl rfl rfl rfl rfl rfl rfl) ?_;refine OpsQ.yes (Want.plain rfl) rfl (OpR.callV [] rfl fn177 (bytes_Equal_c hx8) rfl rfl rfl (fun _=>rfl)) ?_;iterate 2 refine aB rfl rfl rfl ?_
  refine OpsQ.yes (Want.plain rfl) rfl (OpR.neBool rfl rfl rfl rfl) ?_;refine aB rfl rfl rfl ?_;exact OpsQ.nil
 ·dsimp only at h0;obtain⟨x9,hx9,h0⟩:=bS h0;obtain⟨x10,hx10,h0⟩:=bS h0;refine T.drawQ drawsX [.nod [dN a1.fOp,.val (.string (bs a1.fArg)),dT a1.fNot],dN a1.fOp,.agg [.fn (.func 178) [] []],.fn (.func 178) [] [],.agg [.sl 2 (List.map e_arena_Span x1.1.fText.fL),dN x1.1.fText.fN,dN x1.1.fRaw.fAt,dN x1.1.fRaw.fN,dT x1.1.fKept],dP b0,.sl 1 (lB x9),.nod [.val (.string (bs a1.fArg)),dT a1.fNot],.val (.string (bs a1.fArg)),.sl 1 (lB a1.fArg),dT x10,.nod [dT a1.fNot],dT a1.fNot,dT (!(x10==a1.fNot)),dT (!(x10==a1.fNot))] [6] (by decide +kernel) rfl ?_ rfl ?_;rotate_left
  ·show T X _ _ _;refine T.ret ?_;obtain rfl:=osi h0;exact rP [0,1] [6] [0,1] rfl rfl rfl undef (cT rfl ResL.nil) rfl rfl rfl rfl
  iterate 2 refine aB rfl rfl rfl ?_
  refine OpsQ.yes (Want.plain rfl) rfl (OpR.call0 fn112 (filter_of_cx3 hx4) rfl) ?_;refine aB rfl rfl rfl ?_;refine OpsQ.yes (Want.plain rfl) rfl (OpR.loadPtr 2 rfl rfl rfl rfl) ?_;refine aB rfl rfl rfl ?_;refine OpsQ.yes (Want.plain rfl) rfl (OpR.call [0,1] fn113 (cell_Cell_Bytes_c hx9) rfl rfl rfl (fun _=>rfl)) ?_;iterate 2 refine aB rfl rfl rfl ?_
  refine OpsQ.yes (Want.plain rfl) rfl (OpR.toBytesM rfl rfl rfl rfl rfl rfl rfl) ?_;refine OpsQ.yes (Want.plain rfl) rfl (OpR.callV [] rfl fn178 (filter_of_2_c hx10) rfl rfl rfl (fun _=>rfl)) ?_;iterate 2 refine aB rfl rfl rfl ?_
  refine OpsQ.yes (Want.plain rfl) rfl (OpR.neBool rfl rfl rfl rfl) ?_;refine aB rfl rfl rfl ?_;exact OpsQ.nil
 ·dsimp only at h0;obtain⟨x11,hx11,h0⟩:=bS h0;obtain⟨x12,hx12,h0⟩:=bS h0;refine T.drawQ drawsX [.nod [dN a1.fOp,.val (.string (bs a1.fArg)),dT a1.fNot],dN a1.fOp,.agg [.fn (.func 179) [] []],.fn (.func 179) [] [],.agg [.sl 2 (List.map e_arena_Span x1.1.fText.fL),dN x1.1.fText.fN,dN x1.1.fRaw.fAt,dN x1.1.fRaw.fN,dT x1.1.fKept],dP b0,.sl 1 (lB x11),.nod [.val (.string (bs a1.fArg)),dT a1.fNot],.val (.string (bs a1.fArg)),.sl 1 (lB a1.fArg),dT x12,.nod [dT a1.fNot],dT a1.fNot,dT (!(x12==a1.fNot)),dT (!(x12==a1.fNot))] [6] (by decide +kernel) rfl ?_ rfl ?_;rotate_left
  ·show T X _ _ _;refine T.ret ?_;obtain rfl:=osi h0;exact rP [0,1] [6] [0,1] rfl rfl rfl undef (cT rfl ResL.nil) rfl rfl rfl rfl
  iterate 2 refine aB rfl rfl rfl ?_
  refine OpsQ.yes (Want.plain rfl) rfl (OpR.call0 fn112 (filter_of_cx4 hx4) rfl) ?_;refine aB rfl rfl rfl ?_;refine OpsQ.yes (Want.plain rfl) rfl (OpR.loadPtr 2 rfl rfl rfl rfl) ?_;refine aB rfl rfl rfl ?_;refine OpsQ.yes (Want.plain rfl) rfl (OpR.call [0,1] fn113 (cell_Cell_Bytes_c hx11) rfl rfl rfl (fun _=>rfl)) ?_;iterate 2 refine aB rfl rfl rfl ?_
  refine OpsQ.yes (Want.plain rfl) rfl (OpR.toBytesM rfl rfl rfl rfl rfl rfl rfl) ?_;refine OpsQ.yes (Want.plain rfl) rfl (OpR.callV [] rfl fn179 (filter_of_3_c hx12) rfl rfl rfl (fun _=>rfl)) ?_;iterate 2 refine aB rfl rfl rfl ?_
  refine OpsQ.yes (Want.plain rfl) rfl (OpR.neBool rfl rfl rfl rfl) ?_;refine aB rfl rfl rfl ?_;exact OpsQ.nil
 ·dsimp only at h0;obtain⟨x13,hx13,h0⟩:=bS h0;obtain⟨x14,hx14,h0⟩:=bS h0;refine T.drawQ drawsX [.nod [dN a1.fOp,.val (.string (bs a1.fArg)),dT a1.fNot],dN a1.fOp,.agg [.fn (.func 180) [] []],.fn (.func 180) [] [],.agg [.sl 2 (List.map e_arena_Span x1.1.fText.fL),dN x1.1.fText.fN,dN x1.1.fRaw.fAt,dN x1.1.fRaw.fN,dT x1.1.fKept],dP b0,.sl 1 (lB x13),.nod [.val (.string (bs a1.fArg)),dT a1.fNot],.val (.string (bs a1.fArg)),.sl 1 (lB a1.fArg),dT x14,.nod [dT a1.fNot],dT a1.fNot,dT (!(x14==a1.fNot)),dT (!(x14==a1.fNot))] [6] (by decide +kernel) rfl ?_ rfl ?_;rotate_left
  ·show T X _ _ _;refine T.ret ?_;obtain rfl:=osi h0;exact rP [0,1] [6] [0,1] rfl rfl rfl undef (cT rfl ResL.nil) rfl rfl rfl rfl
  iterate 2 refine aB rfl rfl rfl ?_
  refine OpsQ.yes (Want.plain rfl) rfl (OpR.call0 fn112 (filter_of_cx5 hx4) rfl) ?_;refine aB rfl rfl rfl ?_;refine OpsQ.yes (Want.plain rfl) rfl (OpR.loadPtr 2 rfl rfl rfl rfl) ?_;refine aB rfl rfl rfl ?_;refine OpsQ.yes (Want.plain rfl) rfl (OpR.call [0,1] fn113 (cell_Cell_Bytes_c hx13) rfl rfl rfl (fun _=>rfl)) ?_;iterate 2 refine aB rfl rfl rfl ?_
  refine OpsQ.yes (Want.plain rfl) rfl (OpR.toBytesM rfl rfl rfl rfl rfl rfl rfl) ?_;refine OpsQ.yes (Want.plain rfl) rfl (OpR.callV [] rfl fn180 (bytes_HasPrefix_c hx14) rfl rfl rfl (fun _=>rfl)) ?_;iterate 2 refine aB rfl rfl rfl ?_
  refine OpsQ.yes (Want.plain rfl) rfl (OpR.neBool rfl rfl rfl rfl) ?_;refine aB rfl rfl rfl ?_;exact OpsQ.nil
 ·dsimp only at h0;obtain⟨x15,hx15,h0⟩:=bS h0;obtain⟨x16,hx16,h0⟩:=bS h0;refine T.drawQ drawsX [.nod [dN a1.fOp,.val (.string (bs a1.fArg)),dT a1.fNot],dN a1.fOp,.agg [.fn (.func 181) [] []],.fn (.func 181) [] [],.agg [.sl 2 (List.map e_arena_Span x1.1.fText.fL),dN x1.1.fText.fN,dN x1.1.fRaw.fAt,dN x1.1.fRaw.fN,dT x1.1.fKept],dP b0,.sl 1 (lB x15),.nod [.val (.string (bs a1.fArg)),dT a1.fNot],.val (.string (bs a1.fArg)),.sl 1 (lB a1.fArg),dT x16,.nod [dT a1.fNot],dT a1.fNot,dT (!(x16==a1.fNot)),dT (!(x16==a1.fNot))] [6] (by decide +kernel) rfl ?_ rfl ?_;rotate_left
  ·show T X _ _ _;refine T.ret ?_;obtain rfl:=osi h0;exact rP [0,1] [6] [0,1] rfl rfl rfl undef (cT rfl ResL.nil) rfl rfl rfl rfl
  iterate 2 refine aB rfl rfl rfl ?_
  refine OpsQ.yes (Want.plain rfl) rfl (OpR.call0 fn112 (filter_of_cx6 hx4) rfl) ?_;refine aB rfl rfl rfl ?_;refine OpsQ.yes (Want.plain rfl) rfl (OpR.loadPtr 2 rfl rfl rfl rfl) ?_;refine aB rfl rfl rfl ?_;refine OpsQ.yes (Want.plain rfl) rfl (OpR.call [0,1] fn113 (cell_Cell_Bytes_c hx15) rfl rfl rfl (fun _=>rfl)) ?_;iterate 2 refine aB rfl rfl rfl ?_
  refine OpsQ.yes (Want.plain rfl) rfl (OpR.toBytesM rfl rfl rfl rfl rfl rfl rfl) ?_;refine OpsQ.yes (Want.plain rfl) rfl (OpR.callV [] rfl fn181 (bytes_HasSuffix_c hx16) rfl rfl rfl (fun _=>rfl)) ?_;iterate 2 refine aB rfl rfl rfl ?_
  refine OpsQ.yes (Want.plain rfl) rfl (OpR.neBool rfl rfl rfl rfl) ?_;refine aB rfl rfl rfl ?_;exact OpsQ.nil
 dsimp only at h0;obtain⟨x17,hx17,h0⟩:=bS h0;obtain⟨x18,hx18,h0⟩:=bS h0;refine T.drawQ drawsX [.nod [dN a1.fOp,.val (.string (bs a1.fArg)),dT a1.fNot],dN a1.fOp,.agg [.fn (.func 182) [] []],.fn (.func 182) [] [],.agg [.sl 2 (List.map e_arena_Span x1.1.fText.fL),dN x1.1.fText.fN,dN x1.1.fRaw.fAt,dN x1.1.fRaw.fN,dT x1.1.fKept],dP b0,.sl 1 (lB x17),.nod [.val (.string (bs a1.fArg)),dT a1.fNot],.val (.string (bs a1.fArg)),.sl 1 (lB a1.fArg),dT x18,.nod [dT a1.fNot],dT a1.fNot,dT (!(x18==a1.fNot)),dT (!(x18==a1.fNot))] [6] (by decide +kernel) rfl ?_ rfl ?_;rotate_left
 ·show T X _ _ _;refine T.ret ?_;obtain rfl:=osi h0;exact rP [0,1] [6] [0,1] rfl rfl rfl undef (cT rfl ResL.nil) rfl rfl rfl rfl
 iterate 2 refine aB rfl rfl rfl ?_
 refine OpsQ.yes (Want.plain rfl) rfl (OpR.call0 fn112 (filter_of_cx7 hx4) rfl) ?_;refine aB rfl rfl rfl ?_;refine OpsQ.yes (Want.plain rfl) rfl (OpR.loadPtr 2 rfl rfl rfl rfl) ?_;refine aB rfl rfl rfl ?_;refine OpsQ.yes (Want.plain rfl) rfl (OpR.call [0,1] fn113 (cell_Cell_Bytes_c hx17) rfl rfl rfl (fun _=>rfl)) ?_;iterate 2 refine aB rfl rfl rfl ?_
 refine OpsQ.yes (Want.plain rfl) rfl (OpR.toBytesM rfl rfl rfl rfl rfl rfl rfl) ?_;refine OpsQ.yes (Want.plain rfl) rfl (OpR.callV [] rfl fn182 (filter_of_4_c hx18) rfl rfl rfl (fun _=>rfl)) ?_;iterate 2 refine aB rfl rfl rfl ?_
 refine OpsQ.yes (Want.plain rfl) rfl (OpR.neBool rfl rfl rfl rfl) ?_;refine aB rfl rfl rfl ?_;exact OpsQ.nil
noncomputable def filter_all.l1 (a0:row_Row) (a1:List filter_Test) (a2:List UInt8) (s3:Int):Option (Lp Int (Ex Unit Bool)):=
 if s3<(a1.length:Int) then
 bnd (idx a1 s3) fun x12=>
 bnd (filter_Holds a0 x12 a2) fun x14=>
 if x14=true then
 some (Lp.next (w64 (s3+1)))
else
 some (Lp.done (Ex.ret false))
else
 some (Lp.done (Ex.brk ()))
noncomputable def filter_all (a0:row_Row) (a1:List filter_Test) (a2:List UInt8):Option Bool:=
 bnd (loop (filter_all.l1 a0 a1 a2) 0:Option (Ex Unit Bool)) fun t1=>match t1 with
| .brk u2=>
 some true
| .ret u2=>some u2
theorem filter_all_c {a0:row_Row} {a1:List filter_Test} {a2:List UInt8} {b0:Nat} {v1:Value} {res:Bool} (h0:filter_all a0 a1 a2=some res):CallF X 118 [.agg [.sl 5 (List.map e_cell_Cell a0.fCells),dN a0.fEnd,dT a0.fHidden],dP b0,.sl 4 (List.map e_filter_Test a1)] [.var b0 [.val v1] 264,.row v1 (lB a2) 1 5] (fun x=>(dT res)) (fun x=>[.var b0 [.val v1] 264,.row v1 (lB a2) 1 5]):=by
 unfold filter_all at h0;refine CallF.mkG (X:=X) rfl Tryz.func118 rfl rfl Tryz.ntmps118 rfl rfl ?_;refine aS ?_;refine TL.op1 (OpR.boxImm rfl rfl) rfl ?_;refine aA rfl rfl ?_;refine aN rfl ?_;refine T.seq ?_;refine aS ?_;refine aA rfl rfl ?_;refine TL.op1 (OpR.cast (OpR.pure rfl) (intE (lenM _ _))) rfl ?_;refine aA rfl rfl ?_;refine aN rfl ?_;obtain⟨t1,ht1,h0⟩:=bS h0;refine T.cutC (fun S'=>∃ u2,t1=Ex.brk u2∧S'=⟨[(6,(dT false))],[.var b0 [.val v1] 264,.row v1 (lB a2) 1 5],21⟩) (fun _ h=>h) ?_ ?_;rotate_left
 ·rintro _ ⟨u2,rfl,rfl⟩;show T X _ _ _;refine aS ?_;refine aA rfl rfl ?_;refine aN rfl ?_;refine T.ret ?_;obtain rfl:=osi h0;exact rO [0,1] [6] rfl undef (cT rfl ResL.nil) rfl rfl rfl rfl
 refine T.block ?_;obtain⟨n4,n9⟩:=loop_some ht1;refine T.loop (fun n S'=>∃ S'',Gst S' S''∧∃ s3:Int,S''=⟨[(11,(dN s3)),(10,(dN (a1.length:Int))),(9,.sl 4 (List.map e_filter_Test a1)),(6,(dT false)),(3,.nod [.sl 5 (List.map e_cell_Cell a0.fCells),dN a0.fEnd,dT a0.fHidden]),(1,(dP b0))],[.var b0 [.val v1] 264,.row v1 (lB a2) 1 5],21⟩∧iter (filter_all.l1 a0 a1 a2) n s3=some t1) n4 ?_ ?_
 ·exact⟨_,Gst.only [1,3,6,9,10,11] rfl,0,rfl,n9⟩
 rintro n4 _ ⟨_,g,s3,rfl,i8⟩;refine T.ghost g ?_;obtain⟨m5,q6,rfl,q7,i8⟩:=iter_succ i8;unfold filter_all.l1 at q7;refine aS ?_;refine aA rfl rfl ?_;refine aN rfl ?_;refine T.seq ?_;rcases ite_some q7 with ⟨c11,q7⟩|⟨c11,q7⟩;rotate_left
 ·refine T.condF rfl (eF c11) ?_;refine T.exit ?_;obtain rfl:=osi q7;obtain rfl:_=_:=i8;exact⟨_,Gst.only [6] rfl,_,rfl,rfl⟩
 refine T.condT rfl (eT c11) ?_;refine aK rfl ?_;refine T.seq ?_;refine T.block ?_;refine aS ?_;obtain⟨x12,hx12,q7⟩:=bS q7;refine TL.op1 (OpR.indexM e_filter_Test hx12 rfl rfl rfl rfl rfl) rfl ?_;refine aA rfl rfl ?_;refine TL.op (OpR.alloc rfl rfl (fun _=>rfl)) rfl (fun p13=>?_);refine TL.op0 (OpR.store 2 rfl rfl rfl rfl rfl rfl rfl rfl) ?_;refine aN rfl ?_;refine aS ?_;iterate 2 refine aA rfl rfl ?_
 refine TL.op1 (OpR.loadPtr 2 rfl rfl rfl rfl) rfl ?_;obtain⟨x14,hx14,q7⟩:=bS q7;refine TL.op1 (OpR.call [0,1] fn44 (filter_Holds_c hx14) rfl rfl rfl (fun _=>rfl)) rfl ?_;refine aA rfl rfl ?_;refine aN rfl ?_;rcases ite_some q7 with ⟨c15,q7⟩|⟨c15,q7⟩
 ·refine T.condF rfl (not_t (c15)) ?_;refine aK rfl ?_;refine T.region ?_;iterate 2 refine aA rfl rfl ?_
  refine TL.nil ?_;obtain rfl:=osi q7;exact⟨m5,Nat.lt_succ_self _,_,gP [1,3,6,9,10,11] [0,1] rfl rfl rfl,w64 (s3+1),rfl,i8⟩
 refine T.condT rfl (not_f (eq_false_of_ne_true c15)) ?_;refine aS ?_;refine aA rfl rfl ?_;refine aN rfl ?_;refine T.ret ?_;obtain rfl:=osi q7;obtain rfl:_=_:=i8;obtain rfl:=osi h0;exact rP [0,1] [6] [0,1] rfl rfl rfl undef (cT rfl ResL.nil) rfl rfl rfl rfl
noncomputable def filter_Show_1 (a0:row_Row) (a1:List filter_Test) (a2:List UInt8):Option Bool:=
 bnd (filter_all a0 a1 a2) fun x1=>
 some (!x1)
theorem filter_Show_1_c {a0:row_Row} {a1:List filter_Test} {a2:List UInt8} {b0:Nat} {b1:Nat} {b2:Nat} {v3:Value} {res:Bool} (h0:filter_Show_1 a0 a1 a2=some res):CallF X 117 [.agg [.sl 5 (List.map e_cell_Cell a0.fCells),dN a0.fEnd,dT a0.fHidden],dP b0,dP b1] [.var b0 [dP b2] 28,.var b1 [.sl 4 (List.map e_filter_Test a1)] 88,.var b2 [.val v3] 264,.row v3 (lB a2) 1 5] (fun x=>(dT res)) (fun x=>[.var b0 [dP b2] 28,.var b1 [.sl 4 (List.map e_filter_Test a1)] 88,.var b2 [.val v3] 264,.row v3 (lB a2) 1 5]):=by
 unfold filter_Show_1 at h0;refine CallF.mkG (X:=X) rfl Tryz.func117 rfl rfl Tryz.ntmps117 rfl rfl ?_;refine aS ?_;refine TL.op1 (OpR.boxImm rfl rfl) rfl ?_;refine aA rfl rfl ?_;refine aN rfl ?_;refine aS ?_;refine aA rfl rfl ?_;refine TL.op1 (OpR.loadPtr 0 rfl rfl rfl rfl) rfl ?_;refine TL.op1 (OpR.loadPtr 1 rfl rfl rfl rfl) rfl ?_;obtain⟨x1,hx1,h0⟩:=bS h0;refine TL.op1 (OpR.call [2,3] fn118 (filter_all_c hx1) rfl rfl rfl (fun _=>rfl)) rfl ?_;iterate 2 refine aA rfl rfl ?_
 refine aN rfl ?_;refine T.ret ?_;obtain rfl:=osi h0;exact rO [0,1,2,3] [4] rfl undef (cT rfl ResL.nil) rfl rfl rfl rfl
noncomputable def filter_hide_1 (a0:Int) (a1:row_Row) (a2:List filter_Test) (a3:List UInt8):Option row_Row:=
 bnd (filter_Show_1 a1 a2 a3) fun x3=>
 bnd (row_Row_Hide a1 x3) fun x4=>
 some x4
theorem filter_hide_1_c {a0:Int} {a1:row_Row} {a2:List filter_Test} {a3:List UInt8} {b0:Nat} {b1:Nat} {b2:Nat} {b3:Nat} {v4:Value} {res:row_Row} (h0:filter_hide_1 a0 a1 a2 a3=some res):CallF X 185 [dN a0,.agg [.sl 5 (List.map e_cell_Cell a1.fCells),dN a1.fEnd,dT a1.fHidden],dP b0] [.var b0 [.fn (.func 117) [] [dP b1,dP b2]] 130,.var b1 [dP b3] 28,.var b2 [.sl 4 (List.map e_filter_Test a2)] 88,.var b3 [.val v4] 264,.row v4 (lB a3) 1 5] (fun x=>.agg [.sl 5 (List.map e_cell_Cell res.fCells),dN res.fEnd,dT res.fHidden]) (fun x=>[.var b0 [.fn (.func 117) [] [dP b1,dP b2]] 130,.var b1 [dP b3] 28,.var b2 [.sl 4 (List.map e_filter_Test a2)] 88,.var b3 [.val v4] 264,.row v4 (lB a3) 1 5]):=by
 unfold filter_hide_1 at h0;refine CallF.mkG (X:=X) rfl Tryz.func185 rfl rfl Tryz.ntmps185 rfl rfl ?_;refine aS ?_;refine TL.op1 (OpR.boxImm rfl rfl) rfl ?_;refine TL.op (OpR.alloc rfl rfl (fun _=>rfl)) rfl (fun p1=>?_);refine aN rfl ?_;refine T.seq ?_;obtain⟨x3,hx3,h0⟩:=bS h0;obtain⟨x4,hx4,h0⟩:=bS h0;refine T.drawS drawsX (fun env2=>[.agg [.sl 5 (List.map e_cell_Cell a1.fCells),dN a1.fEnd,dT a1.fHidden],.fn (.func 117) [] [dP b1,dP b2],.agg [.sl 5 (List.map e_cell_Cell a1.fCells),dN a1.fEnd,dT a1.fHidden],dT x3,.agg [.sl 5 (List.map e_cell_Cell x4.fCells),dN x4.fEnd,dT x4.fHidden],.dead]) (fun D env2=>[.var b0 [.fn (.func 117) [] [dP b1,dP b2]] 130,.var b1 [dP b3] 28,.var b2 [.sl 4 (List.map e_filter_Test a2)] 88,.var b3 [.val v4] 264,.row v4 (lB a3) 1 5,(bif D 5 then .var (blk p1) [.sl 5 (List.map e_cell_Cell x4.fCells),dN x4.fEnd,dT x4.fHidden] 49 else .var (blk p1) [.val (.slice none 0 0),dN 0,dT false] 49)]) [0,0,0,6,15,31] [5] _ (by decide +kernel) (by decide +kernel) (fun _=>rfl) (fun _=>rfl) ?_ (fun _=>rfl) (fun _=>rfl) ?_;rotate_left
 ·intro env2;show T X _ _ _;refine T.ret ?_;obtain rfl:=osi h0;exact rO [0,1,2,3,4] [5] rfl undef (cV 5 rfl rfl rfl rfl ResL.nil) rfl rfl rfl rfl
 refine aC ?_;refine oT (.fn (.func 117) [] [dP b1,dP b2]) (fun _ _=>OpR.loadPtr 0 rfl rfl rfl rfl) ?_;refine aC ?_;refine OpsS.cons' true ?_ (fun _ _ _ _ _ _ _=>rfl) ?_
 ·intro D env2 hA;have e5:D 5=false:=hA.no 5 _ rfl rfl;exact OpS.yp [(5,false)] ⟨e5,trivial⟩ (Want.plain rfl) (OpR.callV [1,2,3,4] rfl fn117 (filter_Show_1_c hx3) rfl rfl rfl (fun _=>rfl)) (fun x=>rfl) (fun x=>rfl)
 refine oT (.agg [.sl 5 (List.map e_cell_Cell x4.fCells),dN x4.fEnd,dT x4.fHidden]) (fun _ _=>OpR.call0 fn121 (row_Row_Hide_c hx4) rfl) ?_;refine OpsS.cons' true ?_ (fun _ _ _ _ _ _ _=>rfl) ?_
 ·intro D env2 hA;exact OpS.yp [(5,false)] ⟨hA.me,trivial⟩ (Want.plain rfl) (OpR.store 5 rfl rfl rfl rfl rfl rfl rfl rfl) (fun x=>rfl) (fun x=>rfl)
 exact trivial
noncomputable def walk_Map_row_Row.l1 (a1:List filter_Test) (a2:List UInt8) (x3:(List row_Row)) (s6:Int × (List row_Row)):Option (Lp (Int × (List row_Row)) (List row_Row)):=
 if s6.1<(x3.length:Int) then
 bnd (idx s6.2 s6.1) fun x15=>
 bnd (filter_hide_1 s6.1 x15 a1 a2) fun x17=>
 some (Lp.next (w64 (s6.1+1),(s6.2.set s6.1.toNat x17)))
else
 some (Lp.done s6.2)
noncomputable def walk_Map_row_Row (a0:tTr) (a1:List filter_Test) (a2:List UInt8):Option tTr:=
 bnd (walk_All_row_Row a0) fun x2=>
 bnd (slices_Clone_row_Row_row_Row x2) fun x3=>
 bnd (loop (walk_Map_row_Row.l1 a1 a2 x3) (0,x3):Option (List row_Row)) fun t5=>
 bnd (tree_Of_row_Row t5) fun x18=>
 some x18
theorem walk_Map_row_Row_c {a0:tTr} {a1:List filter_Test} {a2:List UInt8} {b0:Nat} {b1:Nat} {b2:Nat} {b3:Nat} {v4:Value} {res:tTr} (h0:walk_Map_row_Row a0 a1 a2=some res):CallF X 137 [.agg [(eOP a0.fRoot)],.fn (.func 185) [] [dP b0]] [.var b0 [.fn (.func 117) [] [dP b1,dP b2]] 130,.var b1 [dP b3] 28,.var b2 [.sl 4 (List.map e_filter_Test a1)] 88,.var b3 [.val v4] 264,.row v4 (lB a2) 1 5] (fun x=>.agg [(eOP res.fRoot)]) (fun x=>[.var b0 [.fn (.func 117) [] [dP b1,dP b2]] 130,.var b1 [dP b3] 28,.var b2 [.sl 4 (List.map e_filter_Test a1)] 88,.var b3 [.val v4] 264,.row v4 (lB a2) 1 5]):=by
 unfold walk_Map_row_Row at h0;refine CallF.mkG (X:=X) rfl Tryz.func137 rfl rfl Tryz.ntmps137 rfl rfl ?_;refine aS ?_;refine TL.op1 (OpR.boxImm rfl rfl) rfl ?_;refine TL.op (OpR.alloc rfl rfl (fun _=>rfl)) rfl (fun p1=>?_);refine aN rfl ?_;refine aS ?_;refine aA rfl rfl ?_;obtain⟨x2,hx2,h0⟩:=bS h0;refine TL.op1 (OpR.call0 fn100 (walk_All_row_Row_c hx2) rfl) rfl ?_;obtain⟨x3,hx3,h0⟩:=bS h0;refine TL.op (OpR.call [] fn191 (slices_Clone_row_Row_row_Row_c hx3) rfl rfl rfl (fun _=>rfl)) rfl (fun w4=>?_);refine aA rfl rfl ?_;refine aN rfl ?_;refine T.seq ?_;refine aS ?_;refine aA rfl rfl ?_;refine TL.op1 (OpR.rowLenM e_row_Row 6 rfl rfl rfl rfl) rfl ?_;refine aA rfl rfl ?_;refine aN rfl ?_;obtain⟨t5,ht5,h0⟩:=bS h0;refine T.cutC (fun S'=>S'=⟨[(5,.val (vn w4 0)),(4,(dP (blk p1)))],[.var b0 [.fn (.func 117) [] [dP b1,dP b2]] 130,.var b1 [dP b3] 28,.var b2 [.sl 4 (List.map e_filter_Test a1)] 88,.var b3 [.val v4] 264,.row v4 (lB a2) 1 5,.var (blk p1) [(eOP none)] 25,.row (vn w4 0) (List.map e_row_Row t5) 3 49],28⟩) (fun _ h=>h) ?_ ?_;rotate_left
 ·rintro _ rfl;show T X _ _ _;refine aS ?_;refine aA rfl rfl ?_;refine TL.ghost (Gst.freezeRow 6 rfl rfl (ReS.cons (Re.base .all) (ReS.refl _)) (ReO.same (ReO.same (ReO.same (ReO.same (ReO.same (ReO.same (ReO.same ReO.nil)))))))) ?_;obtain⟨x18,hx18,h0⟩:=bS h0;refine TL.op1 (OpR.call0 fn101 (tree_Of_row_Row_c hx18) rfl) rfl ?_;refine TL.op0 (OpR.store 5 rfl rfl rfl rfl rfl rfl rfl rfl) ?_;refine aN rfl ?_;refine T.ret ?_;obtain rfl:=osi h0;exact rP [0,1,2,3,4] [4] [0,1,2,3,4,5] rfl rfl rfl undef (cV 5 rfl rfl rfl rfl ResL.nil) rfl rfl rfl rfl
 refine T.block ?_;obtain⟨n7,n12⟩:=loop_some ht5;refine T.loop (fun n S'=>∃ S'',Gst S' S''∧∃ s6:Int × (List row_Row),S''=⟨[(13,(dN s6.1)),(12,(dN (x3.length:Int))),(11,.val (vn w4 0)),(5,.val (vn w4 0)),(4,(dP (blk p1))),(1,.fn (.func 185) [] [dP b0])],[.var b0 [.fn (.func 117) [] [dP b1,dP b2]] 130,.var b1 [dP b3] 28,.var b2 [.sl 4 (List.map e_filter_Test a1)] 88,.var b3 [.val v4] 264,.row v4 (lB a2) 1 5,.var (blk p1) [(eOP none)] 25,.row (vn w4 0) (List.map e_row_Row s6.2) 3 49],28⟩∧iter (walk_Map_row_Row.l1 a1 a2 x3) n s6=some t5) n7 ?_ ?_
 ·exact⟨_,Gst.only [1,4,5,11,12,13] rfl,(0,x3),rfl,n12⟩
 rintro n7 _ ⟨_,g,s6,rfl,i11⟩;refine T.ghost g ?_;obtain⟨m8,q9,rfl,q10,i11⟩:=iter_succ i11;unfold walk_Map_row_Row.l1 at q10;refine aS ?_;refine aA rfl rfl ?_;refine aN rfl ?_;refine T.seq ?_;rcases ite_some q10 with ⟨c14,q10⟩|⟨c14,q10⟩;rotate_left
 ·refine T.condF rfl (eF c14) ?_;refine T.exit ?_;obtain rfl:=osi q10;obtain rfl:_=_:=i11;exact⟨_,Gst.only [4,5] rfl,rfl⟩
 refine T.condT rfl (eT c14) ?_;refine aK rfl ?_;refine T.seq ?_;refine T.block ?_;refine aS ?_;refine aA rfl rfl ?_;obtain⟨x15,hx15,q10⟩:=bS q10;refine TL.op1 (OpR.rowIndexM e_row_Row 6 hx15 rfl rfl rfl rfl rfl rfl rfl) rfl ?_;refine TL.op1 (OpR.rowLoad0M (j:=s6.1) e_row_Row 6 hx15 rfl rfl rfl rfl) rfl ?_;refine TL.op (OpR.alloc rfl rfl (fun _=>rfl)) rfl (fun p16=>?_);refine aA rfl rfl ?_;refine TL.op0 (OpR.store 7 rfl rfl rfl rfl rfl rfl rfl rfl) ?_;refine aN rfl ?_;refine T.region ?_;iterate 4 refine aA rfl rfl ?_
 refine TL.op1 (OpR.loadPtr 7 rfl rfl rfl rfl) rfl ?_;obtain⟨x17,hx17,q10⟩:=bS q10;refine TL.op1 (OpR.callV [0,1,2,3,4] rfl fn185 (filter_hide_1_c hx17) rfl rfl rfl (fun _=>rfl)) rfl ?_;refine TL.op1 (OpR.rowIndexM e_row_Row 6 hx15 rfl rfl rfl rfl rfl rfl rfl) rfl ?_;refine TL.op0 (OpR.rowStore0M (j:=s6.1) e_row_Row x17 6 hx15 rfl rfl rfl rfl rfl rfl rfl rfl rfl) ?_;refine aN rfl ?_;refine T.region ?_;iterate 2 refine aA rfl rfl ?_
 refine TL.nil ?_;obtain rfl:=osi q10;exact⟨m8,Nat.lt_succ_self _,_,gP [1,4,5,11,12,13] [0,1,2,3,4,5,6] rfl rfl rfl,(w64 (s6.1+1),(s6.2.set s6.1.toNat x17)),rfl,i11⟩
noncomputable def filter_hide (a0:grid_Grid) (a1:List filter_Test) (a2:List UInt8):Option grid_Grid:=
 bnd (walk_Map_row_Row a0.fRows a1 a2) fun x4=>
 some (⟨x4,a0.fTail,a0.fEnd⟩:grid_Grid)
theorem filter_hide_c {a0:grid_Grid} {a1:List filter_Test} {a2:List UInt8} {b0:Nat} {b1:Nat} {b2:Nat} {v3:Value} {res:grid_Grid} (h0:filter_hide a0 a1 a2=some res):CallF X 116 [.agg [(eOP a0.fRows.fRoot),dT a0.fTail,dN a0.fEnd],.fn (.func 117) [] [dP b0,dP b1]] [.var b0 [dP b2] 28,.var b1 [.sl 4 (List.map e_filter_Test a1)] 88,.var b2 [.val v3] 264,.row v3 (lB a2) 1 5] (fun x=>.agg [(eOP res.fRows.fRoot),dT res.fTail,dN res.fEnd]) (fun x=>[.var b0 [dP b2] 28,.var b1 [.sl 4 (List.map e_filter_Test a1)] 88,.var b2 [.val v3] 264,.row v3 (lB a2) 1 5]):=by
 unfold filter_hide at h0;refine CallF.mkG (X:=X) rfl Tryz.func116 rfl rfl Tryz.ntmps116 rfl rfl ?_;refine aS ?_;refine TL.op (OpR.boxVar rfl rfl (fun _=>rfl)) rfl (fun p1=>?_);refine TL.op (OpR.boxVar rfl rfl (fun _=>rfl)) rfl (fun p2=>?_);refine TL.op (OpR.alloc rfl rfl (fun _=>rfl)) rfl (fun p3=>?_);refine aN rfl ?_;refine aS ?_;refine aA rfl rfl ?_;refine TL.op1 (OpR.loadPtr 4 rfl rfl rfl rfl) rfl ?_;refine aA rfl rfl ?_;obtain⟨x4,hx4,h0⟩:=bS h0;refine TL.op1 (OpR.call [5,0,1,2,3] fn137 (walk_Map_row_Row_c hx4) rfl rfl rfl (fun _=>rfl)) rfl ?_;refine aA rfl rfl ?_;refine TL.op0 (OpR.store 4 rfl rfl rfl rfl rfl rfl rfl rfl) ?_;refine aN rfl ?_;refine aS ?_;refine TL.op1 (OpR.loadPtr 4 rfl rfl rfl rfl) rfl ?_;refine TL.op0 (OpR.store 6 rfl rfl rfl rfl rfl rfl rfl rfl) ?_;refine aN rfl ?_;refine T.ret ?_;obtain rfl:=osi h0;exact rP [0,1,2,3] [4] [0,1,2,3,6] rfl rfl rfl undef (cV 4 rfl rfl rfl rfl ResL.nil) rfl rfl rfl rfl
noncomputable def filter_Show (a0:grid_Grid) (a1:List filter_Test) (a2:List UInt8):Option (grid_Grid × Int):=
 bnd (filter_wrong a1) fun x4=>
 if x4=true then
 some ((⟨(⟨none⟩:tTr),false,0⟩:grid_Grid),1)
else
 bnd (filter_hide a0 a1 a2) fun x6=>
 some (x6,0)
theorem filter_Show_c {a0:grid_Grid} {a1:List filter_Test} {a2:List UInt8} {b0:Nat} {v1:Value} {res:grid_Grid × Int} (h0:filter_Show a0 a1 a2=some res):CallF X 47 [.agg [(eOP a0.fRows.fRoot),dT a0.fTail,dN a0.fEnd],dP b0,.sl 4 (List.map e_filter_Test a1)] [.var b0 [.val v1] 264,.row v1 (lB a2) 1 5] (fun x=>.tup [.agg [(eOP res.1.fRows.fRoot),dT res.1.fTail,dN res.1.fEnd],dN res.2]) (fun x=>[.var b0 [.val v1] 264,.row v1 (lB a2) 1 5]):=by
 unfold filter_Show at h0;refine CallF.mkG (X:=X) rfl Tryz.func47 rfl rfl Tryz.ntmps47 rfl rfl ?_;refine aS ?_;refine TL.op1 (OpR.boxImm rfl rfl) rfl ?_;refine TL.op (OpR.boxVar rfl rfl (fun _=>rfl)) rfl (fun p1=>?_);refine TL.op (OpR.boxVar rfl rfl (fun _=>rfl)) rfl (fun p2=>?_);refine TL.op (OpR.alloc rfl rfl (fun _=>rfl)) rfl (fun p3=>?_);refine aA rfl rfl ?_;refine aN rfl ?_;refine T.seq ?_;refine aS ?_;refine TL.op1 (OpR.loadPtr 3 rfl rfl rfl rfl) rfl ?_;obtain⟨x4,hx4,h0⟩:=bS h0;refine TL.op1 (OpR.call0 fn115 (filter_wrong_c hx4) rfl) rfl ?_;refine aN rfl ?_;rcases ite_some h0 with ⟨c5,h0⟩|⟨c5,h0⟩
 ·refine T.condT rfl (c5) ?_;refine aS ?_;refine TL.op1 (OpR.build rfl rfl rfl rfl rfl) rfl ?_;refine TL.op0 (OpR.store 4 rfl rfl rfl rfl rfl rfl rfl rfl) ?_;refine aA rfl rfl ?_;refine aN rfl ?_;refine T.ret ?_;obtain rfl:=osi h0;exact rP [0,1] [6,7] [0,1,4] rfl rfl rfl undef (cV 2 rfl rfl rfl rfl (cT rfl ResL.nil)) rfl rfl rfl rfl
 refine T.condF rfl (eq_false_of_ne_true c5) ?_;refine aK rfl ?_;refine aS ?_;iterate 2 refine aA rfl rfl ?_
 obtain⟨x6,hx6,h0⟩:=bS h0;refine TL.op1 (OpR.call [2,3,0,1] fn116 (filter_hide_c hx6) rfl rfl rfl (fun _=>rfl)) rfl ?_;refine TL.op0 (OpR.store 4 rfl rfl rfl rfl rfl rfl rfl rfl) ?_;refine aA rfl rfl ?_;refine aN rfl ?_;refine T.ret ?_;obtain rfl:=osi h0;exact rP [0,1] [6,7] [0,1,4] rfl rfl rfl undef (cV 2 rfl rfl rfl rfl (cT rfl ResL.nil)) rfl rfl rfl rfl
end Go.Proofs.YtpmhiiemklhbhaaGreat.S
