import Derived.Test.YtpmhiiemklhbhaaGreatG1xb
import Derived.Test.YtpmhiiemklhbhaaGreatG1xa
set_option maxHeartbeats 4000000
set_option linter.unusedVariables false
set_option linter.unusedSimpArgs false
set_option maxRecDepth 20000
namespace Go.Proofs.YtpmhiiemklhbhaaGreat.S
open Go Go.Sm
attribute [local irreducible] T TL OpR CallT iter loop
noncomputable def walk_stack_row_Row_forth.l1 (s7:(List wFr)):Option (Lp (List wFr) (Ex (List wFr) (Bool × (List wFr)))):=
 if (s7.length:Int)>0 then
  bnd (walk_stack_row_Row_top s7) fun x16=>
  bnd (idx s7 x16) fun x17=>
  bnd (some x17.fN) fun q18=>match q18 with
   | none=>
    none
   | some z19=>
    bnd (o_tNd z19) fun x21=>
    bnd (idx x21.fKids x17.fNext) fun x23=>
    bnd (o_tNd x23) fun x24=>
    bnd (idx (s7.set x16.toNat (⟨x17.fN,w64 (x17.fFirst+x24.fN),x17.fNext⟩:wFr)) x16) fun x25=>
    bnd (idx ((s7.set x16.toNat (⟨x17.fN,w64 (x17.fFirst+x24.fN),x17.fNext⟩:wFr)).set x16.toNat (⟨x25.fN,x25.fFirst,w64 (x25.fNext+1)⟩:wFr)) x16) fun x26=>
    bnd (some x26.fN) fun q27=>match q27 with
     | none=>
      none
     | some z28=>
      bnd (o_tNd z28) fun x30=>
      if x26.fNext<(x30.fKids.length:Int) then
       bnd (idx x30.fKids x26.fNext) fun x34=>
       bnd (o_tNd x34) fun x35=>
       bnd (walk_stack_row_Row_down_2 x35.fKids x35.fItems x35.fN x26.fFirst x26.fFirst ((s7.set x16.toNat (⟨x17.fN,w64 (x17.fFirst+x24.fN),x17.fNext⟩:wFr)).set x16.toNat (⟨x25.fN,x25.fFirst,w64 (x25.fNext+1)⟩:wFr))) fun x36=>
       some (Lp.done (Ex.ret (true,x36)))
      else
       bnd (some (((s7.set x16.toNat (⟨x17.fN,w64 (x17.fFirst+x24.fN),x17.fNext⟩:wFr)).set x16.toNat (⟨x25.fN,x25.fFirst,w64 (x25.fNext+1)⟩:wFr)).length:Int)) fun x38=>
       bnd (cut ((s7.set x16.toNat (⟨x17.fN,w64 (x17.fFirst+x24.fN),x17.fNext⟩:wFr)).set x16.toNat (⟨x25.fN,x25.fFirst,w64 (x25.fNext+1)⟩:wFr)) 0 (w64 (x38-1))) fun x39=>
       some (Lp.next x39)
 else
  some (Lp.done (Ex.brk s7))
noncomputable def walk_stack_row_Row_forth (a0:List wFr):Option (Bool × (List wFr)):=
 bnd (cut a0 0 (w64 ((a0.length:Int)-1))) fun x2=>
 bnd (loop walk_stack_row_Row_forth.l1 x2:Option (Ex (List wFr) (Bool × (List wFr)))) fun t3=>match t3 with
| .brk u4=>
 some (false,u4)
| .ret u4=>some u4
theorem walk_stack_row_Row_forth_c {a0:List wFr} {b0:Nat} {v1:Value} {res:Bool × (List wFr)} (h0:walk_stack_row_Row_forth a0=some res):CallF X 150 [dP b0] [.var b0 [.val v1] 228,.row v1 (List.map e_wFr a0) 3 234] (fun x=>(dT res.1)) (fun x=>[.var b0 [.val (vn x 0)] 228,.row (vn x 0) (List.map e_wFr res.2) 3 234]):=by
 unfold walk_stack_row_Row_forth at h0;refine CallF.mkG (X:=X) rfl Tryz.func150 rfl rfl Tryz.ntmps150 rfl rfl ?_;refine aS ?_;refine aA rfl rfl ?_;refine aN rfl ?_;refine T.seq ?_;obtain⟨x2,hx2,h0⟩:=bS h0;refine T.drawS drawsX (fun env1=>[dP b0,dP b0,dP b0,dP b0,.val v1,dP b0,dP b0,dP b0,.val v1,dN (a0.length:Int),dN (w64 ((a0.length:Int)-1)),.val (vw v1 (0:Int).toNat (w64 ((a0.length:Int)-1):Int).toNat 3),dP b0,dP b0,.dead]) (fun D env1=>[(bif D 14 then .var b0 [.val (vw v1 (0:Int).toNat (w64 ((a0.length:Int)-1):Int).toNat 3)] 228 else .var b0 [.val v1] 228),.row v1 (List.map e_wFr a0) 3 234]) [0,0,2,6,14,0,32,96,224,480,992,2046,4095,8191,16383] [0,2] _ (by decide +kernel) (by decide +kernel) (fun _=>rfl) (fun _=>rfl) ?_ (fun _=>rfl) (fun _=>rfl) ?_
 ·iterate 4 refine aC ?_
  refine OpsS.cons' true ?_ (fun _ _ _ _ _ _ _=>rfl) ?_
  ·intro D env1 hA;have e14:D 14=false:=hA.no 14 _ rfl rfl;exact OpS.yp [(14,false)] ⟨e14,trivial⟩ (Want.plain rfl) (OpR.loadPtr 0 rfl rfl rfl rfl) (fun x=>rfl) (fun x=>rfl)
  iterate 3 refine aC ?_
  refine OpsS.cons' true ?_ (fun _ _ _ _ _ _ _=>rfl) ?_
  ·intro D env1 hA;have e14:D 14=false:=hA.no 14 _ rfl rfl;exact OpS.yp [(14,false)] ⟨e14,trivial⟩ (Want.plain rfl) (OpR.loadPtr 0 rfl rfl rfl rfl) (fun x=>rfl) (fun x=>rfl)
  refine oT ((dN (a0.length:Int))) (fun _ _=>OpR.rowLenM e_wFr 1 rfl rfl rfl rfl) ?_;refine aC ?_;refine oT (.val (vw v1 (0:Int).toNat (w64 ((a0.length:Int)-1):Int).toNat 3)) (fun _ _=>OpR.sliceRowM e_wFr 1 hx2 rfl rfl rfl rfl rfl rfl BdM.none (BdM.some rfl)) ?_;iterate 2 refine aC ?_
  refine OpsS.cons' true ?_ (fun _ _ _ _ _ _ _=>rfl) ?_
  ·intro D env1 hA;exact OpS.yp [(14,false)] ⟨hA.me,trivial⟩ (Want.plain rfl) (OpR.store 0 rfl rfl rfl rfl rfl rfl rfl rfl) (fun x=>rfl) (fun x=>rfl)
  exact trivial
 intro env1;show T X _ _ _;refine T.ghost (Gst.truncM (ow:=[.var b0 [.val (vw v1 (0:Int).toNat (w64 ((a0.length:Int)-1):Int).toNat 3)] 228,.row v1 (List.map e_wFr a0) 3 234]) e_wFr 1 hx2 rfl rfl) ?_;refine T.seq ?_;obtain⟨t3,ht3,h0⟩:=bS h0;refine T.cutC (fun S'=>∃ u4,t3=Ex.brk u4∧∃ y5:Value,S'=⟨[(2,(dT false))],[.var b0 [.val y5] 228,.row y5 (List.map e_wFr u4) 3 234],106⟩) (fun _ h=>h) ?_ ?_;rotate_left
 ·rintro _ ⟨u4,rfl,y5,rfl⟩;show T X _ _ _;refine aS ?_;refine aA rfl rfl ?_;refine aN rfl ?_;refine T.ret ?_;obtain rfl:=osi h0;exact rO [0,1] [2] rfl (.tuple #[y5]) (cT rfl ResL.nil) rfl rfl rfl rfl
 refine T.block ?_;obtain⟨n8,n13⟩:=loop_some ht3;refine T.loop (fun n S'=>∃ S'',Gst S' S''∧∃ y6:Value,∃ s7:(List wFr),S''=⟨[(2,(dT false)),(0,(dP b0))],[.var b0 [.val y6] 228,.row y6 (List.map e_wFr s7) 3 234],106⟩∧iter walk_stack_row_Row_forth.l1 n s7=some t3) n8 ?_ ?_
 ·exact⟨_,Gst.only [0,2] rfl,(vw v1 (0:Int).toNat (w64 ((a0.length:Int)-1):Int).toNat 3),x2,rfl,n13⟩
 rintro n8 _ ⟨_,g,y6,s7,rfl,i12⟩;refine T.ghost g ?_;obtain⟨m9,q10,rfl,q11,i12⟩:=iter_succ i12;unfold walk_stack_row_Row_forth.l1 at q11;refine T.seq ?_;refine aS ?_;iterate 3 refine aA rfl rfl ?_
 refine TL.op1 (OpR.loadPtr 0 rfl rfl rfl rfl) rfl ?_;refine TL.op1 (OpR.rowLenM e_wFr 1 rfl rfl rfl rfl) rfl ?_;refine aA rfl rfl ?_;refine aN rfl ?_;rcases ite_some q11 with ⟨c15,q11⟩|⟨c15,q11⟩;rotate_left
 ·refine T.condF rfl (eF c15) ?_;refine T.exit ?_;obtain rfl:=osi q11;obtain rfl:_=_:=i12;exact⟨_,Gst.only [2] rfl,_,rfl,y6,rfl⟩
 refine T.condT rfl (eT c15) ?_;refine aK rfl ?_;refine T.block ?_;refine aS ?_;refine aA rfl rfl ?_;obtain⟨x16,hx16,q11⟩:=bS q11;refine TL.op1 (OpR.call [0,1] fn149 (walk_stack_row_Row_top_c hx16) rfl rfl rfl (fun _=>rfl)) rfl ?_;refine aA rfl rfl ?_;refine aN rfl ?_;refine T.seq ?_;obtain⟨x17,hx17,q11⟩:=bS q11;obtain⟨q18,hq18,q11⟩:=bS q11;rcases q18 with _|z19
 ·dsimp only at q11;exact (by cases q11)
 dsimp only at q11;obtain⟨x21,hx21,q11⟩:=bS q11;rw[o_tNd_eq hx21] at hq18;obtain⟨x23,hx23,q11⟩:=bS q11;obtain⟨x24,hx24,q11⟩:=bS q11;rw[o_tNd_eq hx24] at hx23;refine T.drawS drawsX (fun env22=>[.val (.pointer (some ⟨blk y6,x16.toNat*3,none⟩)),.val (.pointer (some ⟨blk y6,x16.toNat*3,none⟩)),.val (.pointer (some ⟨blk y6,x16.toNat*3+1,none⟩)),dN x17.fFirst,.val (.pointer (some ⟨blk y6,x16.toNat*3,none⟩)),.val (.pointer (some ⟨blk y6,x16.toNat*3,none⟩)),.val (.pointer (some ⟨blk y6,x16.toNat*3,none⟩)),.nod [.sl 1 (List.map eNP x21.fKids),.sl 3 (List.map e_row_Row x21.fItems),dN x21.fN],.nod [.sl 1 (List.map eNP x21.fKids),.sl 3 (List.map e_row_Row x21.fItems),dN x21.fN],.nod [.sl 1 (List.map eNP x21.fKids),.sl 3 (List.map e_row_Row x21.fItems),dN x21.fN],.sl 1 (List.map eNP x21.fKids),.val (.pointer (some ⟨blk y6,x16.toNat*3,none⟩)),.val (.pointer (some ⟨blk y6,x16.toNat*3,none⟩)),.val (.pointer (some ⟨blk y6,x16.toNat*3+2,none⟩)),dN x17.fNext,.nod [.nod [.sl 1 (List.map eNP x24.fKids),.sl 3 (List.map e_row_Row x24.fItems),dN x24.fN]],.nod [.sl 1 (List.map eNP x24.fKids),.sl 3 (List.map e_row_Row x24.fItems),dN x24.fN],.nod [.sl 1 (List.map eNP x24.fKids),.sl 3 (List.map e_row_Row x24.fItems),dN x24.fN],.nod [dN x24.fN],dN x24.fN,dN (w64 (x17.fFirst+x24.fN)),.val (.pointer (some ⟨blk y6,x16.toNat*3,none⟩)),.val (.pointer (some ⟨blk y6,x16.toNat*3+1,none⟩)),.dead]) (fun D env22=>[.var b0 [.val y6] 228,(bif D 23 then .row y6 (List.map e_wFr (s7.set x16.toNat (⟨x17.fN,w64 (x17.fFirst+x24.fN),x17.fNext⟩:wFr))) 3 234 else .row y6 (List.map e_wFr s7) 3 234)]) [0,1,3,7,0,16,48,112,240,496,1008,0,2048,6144,14336,32752,65520,131056,262128,524272,1048575,2097151,4194303,8388607] [0,2,3] _ (by decide +kernel) (by decide +kernel) (fun _=>rfl) (fun _=>rfl) ?_ (fun _=>rfl) (fun _=>rfl) ?_
 ·iterate 3 refine aC ?_
  refine OpsS.cons' true ?_ (fun _ _ _ _ _ _ _=>rfl) ?_
  ·intro D env22 hA;have e23:D 23=false:=hA.no 23 _ rfl rfl;exact OpS.yp [(23,false)] ⟨e23,trivial⟩ (Want.plain rfl) (OpR.rowLoadM (j:=x16) e_wFr 1 hx17 rfl rfl rfl rfl) (fun x=>rfl) (fun x=>rfl)
  iterate 3 refine aC ?_
  refine OpsS.cons' true ?_ (fun _ _ _ _ _ _ _=>rfl) ?_
  ·intro D env22 hA;have e23:D 23=false:=hA.no 23 _ rfl rfl;exact OpS.yp [(23,false)] ⟨e23,trivial⟩ (Want.plain rfl) (OpR.cast (OpR.rowLoad0M (j:=x16) e_wFr 1 hx17 rfl rfl rfl rfl) (congrArg eOP (osi hq18))) (fun x=>rfl) (fun x=>rfl)
  iterate 6 refine aC ?_
  refine OpsS.cons' true ?_ (fun _ _ _ _ _ _ _=>rfl) ?_
  ·intro D env22 hA;have e23:D 23=false:=hA.no 23 _ rfl rfl;exact OpS.yp [(23,false)] ⟨e23,trivial⟩ (Want.plain rfl) (OpR.rowLoadM (j:=x16) e_wFr 1 hx17 rfl rfl rfl rfl) (fun x=>rfl) (fun x=>rfl)
  refine oT (.nod [.nod [.sl 1 (List.map eNP x24.fKids),.sl 3 (List.map e_row_Row x24.fItems),dN x24.fN]]) (fun _ _=>OpR.indexM eNP hx23 rfl rfl rfl rfl rfl) ?_;iterate 7 refine aC ?_
  refine OpsS.cons' true ?_ (fun _ _ _ _ _ _ _=>rfl) ?_
  ·intro D env22 hA;exact OpS.yp [(23,false)] ⟨hA.me,trivial⟩ (Want.plain rfl) (OpR.rowStoreM (j:=x16) e_wFr (⟨x17.fN,w64 (x17.fFirst+x24.fN),x17.fNext⟩:wFr) 1 hx17 rfl rfl rfl rfl rfl rfl rfl rfl rfl) (fun x=>rfl) (fun x=>rfl)
  exact trivial
 intro env22;show T X _ _ _;refine aS ?_;iterate 3 refine aA rfl rfl ?_
 obtain⟨x25,hx25,q11⟩:=bS q11;refine TL.op1 (OpR.rowLoadM (j:=x16) e_wFr 1 hx25 rfl rfl rfl rfl) rfl ?_;iterate 3 refine aA rfl rfl ?_
 refine TL.op0 (OpR.rowStoreM (j:=x16) e_wFr (⟨x25.fN,x25.fFirst,w64 (x25.fNext+1)⟩:wFr) 1 hx25 rfl rfl rfl rfl rfl rfl rfl rfl rfl) ?_;refine aN rfl ?_;refine T.seq ?_;refine T.seq ?_;obtain⟨x26,hx26,q11⟩:=bS q11;obtain⟨q27,hq27,q11⟩:=bS q11;rcases q27 with _|z28
 ·dsimp only at q11;exact (by cases q11)
 dsimp only at q11;obtain⟨x30,hx30,q11⟩:=bS q11;rw[o_tNd_eq hx30] at hq27;refine T.drawQ drawsX [.val (.pointer (some ⟨blk y6,x16.toNat*3,none⟩)),.val (.pointer (some ⟨blk y6,x16.toNat*3,none⟩)),.val (.pointer (some ⟨blk y6,x16.toNat*3+2,none⟩)),dN x26.fNext,.val (.pointer (some ⟨blk y6,x16.toNat*3,none⟩)),.val (.pointer (some ⟨blk y6,x16.toNat*3,none⟩)),.val (.pointer (some ⟨blk y6,x16.toNat*3,none⟩)),.nod [.sl 1 (List.map eNP x30.fKids),.sl 3 (List.map e_row_Row x30.fItems),dN x30.fN],.nod [.sl 1 (List.map eNP x30.fKids),.sl 3 (List.map e_row_Row x30.fItems),dN x30.fN],.nod [.sl 1 (List.map eNP x30.fKids),.sl 3 (List.map e_row_Row x30.fItems),dN x30.fN],.sl 1 (List.map eNP x30.fKids),dN (x30.fKids.length:Int),dT (decide (x26.fNext<(x30.fKids.length:Int)))] [0,2,3,68] (by decide +kernel) rfl ?_ rfl ?_
 ·iterate 3 refine aB rfl rfl rfl ?_
  refine OpsQ.yes (Want.plain rfl) rfl (OpR.rowLoadM (j:=x16) e_wFr 1 hx26 rfl rfl rfl rfl) ?_;iterate 3 refine aB rfl rfl rfl ?_
  refine OpsQ.yes (Want.plain rfl) rfl (OpR.cast (OpR.rowLoad0M (j:=x16) e_wFr 1 hx26 rfl rfl rfl rfl) (congrArg eOP (osi hq27))) ?_;iterate 3 refine aB rfl rfl rfl ?_
  refine OpsQ.yes (Want.plain rfl) rfl (OpR.cast (OpR.pure rfl) (intE (lenM _ _))) ?_;refine aB rfl rfl rfl ?_;exact OpsQ.nil
 show T X _ _ _;rcases ite_some q11 with ⟨c32,q11⟩|⟨c32,q11⟩;rotate_left
 ·refine T.condF rfl (eF c32) ?_;refine aK rfl ?_;obtain⟨x38,hx38,q11⟩:=bS q11;obtain⟨x39,hx39,q11⟩:=bS q11;refine T.drawS drawsX (fun env37=>[dP b0,dP b0,dP b0,dP b0,.val y6,dP b0,dP b0,dP b0,.val y6,dN x38,dN (w64 (x38-1)),.val (vw y6 (0:Int).toNat (w64 (x38-1):Int).toNat 3),dP b0,dP b0,.dead]) (fun D env37=>[(bif D 14 then .var b0 [.val (vw y6 (0:Int).toNat (w64 (x38-1):Int).toNat 3)] 228 else .var b0 [.val y6] 228),.row y6 (List.map e_wFr ((s7.set x16.toNat (⟨x17.fN,w64 (x17.fFirst+x24.fN),x17.fNext⟩:wFr)).set x16.toNat (⟨x25.fN,x25.fFirst,w64 (x25.fNext+1)⟩:wFr))) 3 234]) [0,0,2,6,14,0,32,96,224,480,992,2046,4095,8191,16383] [0,2] _ (by decide +kernel) (by decide +kernel) (fun _=>rfl) (fun _=>rfl) ?_ (fun _=>rfl) (fun _=>rfl) ?_;rotate_left
  ·intro env37;obtain rfl:=osi q11;exact⟨m9,Nat.lt_succ_self _,_,Gst.trans (Gst.truncM (ow:=[.var b0 [.val (vw y6 (0:Int).toNat (w64 (x38-1):Int).toNat 3)] 228,.row y6 (List.map e_wFr ((s7.set x16.toNat (⟨x17.fN,w64 (x17.fFirst+x24.fN),x17.fNext⟩:wFr)).set x16.toNat (⟨x25.fN,x25.fFirst,w64 (x25.fNext+1)⟩:wFr))) 3 234]) e_wFr 1 hx39 rfl rfl) (Gst.only [0,2] rfl),(vw y6 (0:Int).toNat (w64 (x38-1):Int).toNat 3),x39,rfl,i12⟩
  iterate 4 refine aC ?_
  refine OpsS.cons' true ?_ (fun _ _ _ _ _ _ _=>rfl) ?_
  ·intro D env37 hA;have e14:D 14=false:=hA.no 14 _ rfl rfl;exact OpS.yp [(14,false)] ⟨e14,trivial⟩ (Want.plain rfl) (OpR.loadPtr 0 rfl rfl rfl rfl) (fun x=>rfl) (fun x=>rfl)
  iterate 3 refine aC ?_
  refine OpsS.cons' true ?_ (fun _ _ _ _ _ _ _=>rfl) ?_
  ·intro D env37 hA;have e14:D 14=false:=hA.no 14 _ rfl rfl;exact OpS.yp [(14,false)] ⟨e14,trivial⟩ (Want.plain rfl) (OpR.loadPtr 0 rfl rfl rfl rfl) (fun x=>rfl) (fun x=>rfl)
  refine oT ((dN x38)) (fun _ _=>OpR.cast (OpR.rowLenM e_wFr 1 rfl rfl rfl rfl) (intE (osi hx38))) ?_;refine aC ?_;refine oT (.val (vw y6 (0:Int).toNat (w64 (x38-1):Int).toNat 3)) (fun _ _=>OpR.sliceRowM e_wFr 1 hx39 rfl rfl rfl rfl rfl rfl BdM.none (BdM.some rfl)) ?_;iterate 2 refine aC ?_
  refine OpsS.cons' true ?_ (fun _ _ _ _ _ _ _=>rfl) ?_
  ·intro D env37 hA;exact OpS.yp [(14,false)] ⟨hA.me,trivial⟩ (Want.plain rfl) (OpR.store 0 rfl rfl rfl rfl rfl rfl rfl rfl) (fun x=>rfl) (fun x=>rfl)
  exact trivial
 refine T.condT rfl (eT c32) ?_;refine T.seq ?_;obtain⟨x34,hx34,q11⟩:=bS q11;obtain⟨x35,hx35,q11⟩:=bS q11;rw[o_tNd_eq hx35] at hx34;obtain⟨x36,hx36,q11⟩:=bS q11;refine T.drawS drawsX (fun env33=>[dP b0,.val (.pointer (some ⟨blk y6,x16.toNat*3,none⟩)),.val (.pointer (some ⟨blk y6,x16.toNat*3,none⟩)),.val (.pointer (some ⟨blk y6,x16.toNat*3,none⟩)),.nod [.sl 1 (List.map eNP x30.fKids),.sl 3 (List.map e_row_Row x30.fItems),dN x30.fN],.nod [.sl 1 (List.map eNP x30.fKids),.sl 3 (List.map e_row_Row x30.fItems),dN x30.fN],.nod [.sl 1 (List.map eNP x30.fKids),.sl 3 (List.map e_row_Row x30.fItems),dN x30.fN],.sl 1 (List.map eNP x30.fKids),.val (.pointer (some ⟨blk y6,x16.toNat*3,none⟩)),.val (.pointer (some ⟨blk y6,x16.toNat*3,none⟩)),.val (.pointer (some ⟨blk y6,x16.toNat*3+2,none⟩)),dN x26.fNext,.nod [.nod [.sl 1 (List.map eNP x35.fKids),.sl 3 (List.map e_row_Row x35.fItems),dN x35.fN]],.nod [.sl 1 (List.map eNP x35.fKids),.sl 3 (List.map e_row_Row x35.fItems),dN x35.fN],.val (.pointer (some ⟨blk y6,x16.toNat*3,none⟩)),.val (.pointer (some ⟨blk y6,x16.toNat*3,none⟩)),.val (.pointer (some ⟨blk y6,x16.toNat*3+1,none⟩)),dN x26.fFirst,.val (.pointer (some ⟨blk y6,x16.toNat*3,none⟩)),.val (.pointer (some ⟨blk y6,x16.toNat*3,none⟩)),.val (.pointer (some ⟨blk y6,x16.toNat*3+1,none⟩)),dN x26.fFirst,.tup []]) (fun D env33=>[(bif D 22 then .var b0 [.val (vn (env33 22) 0)] 228 else .var b0 [.val y6] 228),(bif D 22 then .row (vn (env33 22) 0) (List.map e_wFr x36) 3 234 else .row y6 (List.map e_wFr ((s7.set x16.toNat (⟨x17.fN,w64 (x17.fFirst+x24.fN),x17.fNext⟩:wFr)).set x16.toNat (⟨x25.fN,x25.fFirst,w64 (x25.fNext+1)⟩:wFr))) 3 234)]) [0,0,2,6,14,30,62,126,0,256,768,1792,4094,8190,0,16384,49152,114688,0,262144,786432,1835008,4194303] [0,2] _ (by decide +kernel) (by decide +kernel) (fun _=>rfl) (fun _=>rfl) ?_ (fun _=>rfl) (fun _=>rfl) ?_;rotate_left
 ·intro env33;show T X _ _ _;refine aS ?_;refine aA rfl rfl ?_;refine aN rfl ?_;refine T.ret ?_;obtain rfl:=osi q11;obtain rfl:_=_:=i12;obtain rfl:=osi h0;exact rO [0,1] [2] rfl (.tuple #[(vn (env33 22) 0)]) (cT rfl ResL.nil) rfl rfl rfl rfl
 iterate 4 refine aC ?_
 refine OpsS.cons' true ?_ (fun _ _ _ _ _ _ _=>rfl) ?_
 ·intro D env33 hA;have e22:D 22=false:=hA.no 22 _ rfl rfl;exact OpS.yp [(22,false)] ⟨e22,trivial⟩ (Want.plain rfl) (OpR.cast (OpR.rowLoad0M (j:=x16) e_wFr 1 hx26 rfl rfl rfl rfl) (congrArg eOP (osi hq27))) (fun x=>rfl) (fun x=>rfl)
 iterate 6 refine aC ?_
 refine OpsS.cons' true ?_ (fun _ _ _ _ _ _ _=>rfl) ?_
 ·intro D env33 hA;have e22:D 22=false:=hA.no 22 _ rfl rfl;exact OpS.yp [(22,false)] ⟨e22,trivial⟩ (Want.plain rfl) (OpR.rowLoadM (j:=x16) e_wFr 1 hx26 rfl rfl rfl rfl) (fun x=>rfl) (fun x=>rfl)
 refine oT (.nod [.nod [.sl 1 (List.map eNP x35.fKids),.sl 3 (List.map e_row_Row x35.fItems),dN x35.fN]]) (fun _ _=>OpR.indexM eNP hx34 rfl rfl rfl rfl rfl) ?_;iterate 4 refine aC ?_
 refine OpsS.cons' true ?_ (fun _ _ _ _ _ _ _=>rfl) ?_
 ·intro D env33 hA;have e22:D 22=false:=hA.no 22 _ rfl rfl;exact OpS.yp [(22,false)] ⟨e22,trivial⟩ (Want.plain rfl) (OpR.rowLoadM (j:=x16) e_wFr 1 hx26 rfl rfl rfl rfl) (fun x=>rfl) (fun x=>rfl)
 iterate 3 refine aC ?_
 refine OpsS.cons' true ?_ (fun _ _ _ _ _ _ _=>rfl) ?_
 ·intro D env33 hA;have e22:D 22=false:=hA.no 22 _ rfl rfl;exact OpS.yp [(22,false)] ⟨e22,trivial⟩ (Want.plain rfl) (OpR.rowLoadM (j:=x16) e_wFr 1 hx26 rfl rfl rfl rfl) (fun x=>rfl) (fun x=>rfl)
 refine OpsS.cons' true ?_ (fun D hA env33 x j hj hD=>match j,hj,hD with|0,_,_=>rfl|1,_,_=>rfl|2,_,_=>rfl|3,_,_=>rfl|4,_,_=>rfl|5,_,_=>rfl|6,_,_=>rfl|7,_,_=>rfl|8,_,_=>rfl|9,_,_=>rfl|10,_,_=>rfl|11,_,_=>rfl|12,_,_=>rfl|13,_,_=>rfl|14,_,_=>rfl|15,_,_=>rfl|16,_,_=>rfl|17,_,_=>rfl|18,_,_=>rfl|19,_,_=>rfl|20,_,_=>rfl|21,_,_=>rfl|22,hj,_=>absurd rfl hj|_+23,_,_=>rfl) ?_
 ·intro D env33 hA;exact OpS.yp [(22,false)] ⟨hA.me,trivial⟩ (Want.plain rfl) (OpR.call [0,1] fn147 (walk_stack_row_Row_down_2_c hx36) rfl rfl rfl (fun _=>rfl)) (fun x=>rfl) (fun x=>rfl)
 exact trivial
noncomputable def grid_Grid_Visible_r0_2 (a0:Int) (a1:row_Row) (a2:List Int):Option (List Int):=
 if a1.fHidden=true then
 some a2
else
 bnd (app 8 a2 [a0]) fun x33=>
 some x33
theorem grid_Grid_Visible_r0_2_c {a0:Int} {a1:row_Row} {a2:List Int} {b0:Nat} {b1:Nat} {v2:Value} {res:(List Int)} (h0:grid_Grid_Visible_r0_2 a0 a1 a2=some res):RoundF X b0 [dN a0,.agg [.sl 5 (List.map e_cell_Cell a1.fCells),dN a1.fEnd,dT a1.fHidden]] [.lp b0 .ready none [11,12] rfA51_0 rfB51_0 [(3,(dP b1))] 21,.var b1 [.val v2] 76,.row v2 (List.map (eI .i64) a2) 1 3] (fun x=>(dT true)) (fun x=>[.lp b0 .ready none [11,12] rfA51_0 rfB51_0 [(3,(dP b1))] 21,.var b1 [.val (vn x 0)] 76,.row (vn x 0) (List.map (eI .i64) res) 1 3]):=by
 unfold grid_Grid_Visible_r0_2 at h0;refine RoundF.mk (X:=X) rfl rfl rfl ?_;refine aS ?_;refine aA rfl rfl ?_;refine TL.nil ?_;show T (X.inR b0) _ _ _;refine T.region ?_;refine TL.op (OpR.alloc rfl rfl (fun _=>rfl)) rfl (fun p31=>?_);refine TL.op0 (OpR.store 3 rfl rfl rfl rfl rfl rfl rfl rfl) ?_;refine TL.nil ?_;refine RoundA.mk ?_;refine T.block ?_;refine aS ?_;refine aA rfl rfl ?_;refine TL.op1 (OpR.loadPtr 3 rfl rfl rfl rfl) rfl ?_;refine aA rfl rfl ?_;refine TL.nil ?_;show T (X.inR b0) _ _ _;rcases ite_some h0 with ⟨c32,h0⟩|⟨c32,h0⟩
 ·refine T.condF rfl (not_t (c32)) ?_;refine T.skip ?_;obtain rfl:=osi h0;exact RoundG.mk (ks:=[0,1,2]) (gP [] [0,1,2] rfl rfl rfl) (.tuple #[v2]) rfl rfl rfl rfl rfl
 refine T.condT rfl (not_f (eq_false_of_ne_true c32)) ?_;refine T.region ?_;refine TL.op1 (OpR.loadPtr 1 rfl rfl rfl rfl) rfl ?_;refine aA rfl rfl ?_;refine TL.op1 (OpR.lit rfl rfl rfl rfl rfl rfl rfl) rfl ?_;obtain⟨x33,hx33,h0⟩:=bS h0;refine TL.op (OpR.appendM (m:=[a0]) (eI .i64) 2 hx33 rfl rfl rfl rfl rfl rfl rfl rfl rfl (fun _=>rfl)) rfl (fun v34=>?_);refine TL.op0 (OpR.store 1 rfl rfl rfl rfl rfl rfl rfl rfl) ?_;refine TL.nil ?_;obtain rfl:=osi h0;exact RoundG.mk (ks:=[0,1,2]) (gP [] [0,1,2] rfl rfl rfl) (.tuple #[v34]) rfl rfl rfl rfl rfl
noncomputable def walk_Range_row_Row_1.l1 (a1:Int) (s10:Int × (List Int) × (List wFr)):Option (Lp (Int × (List Int) × (List wFr)) (List Int)):=
 if s10.1<a1 then
  bnd (walk_stack_row_Row_top s10.2.2) fun x19=>
  bnd (idx s10.2.2 x19) fun x20=>
  bnd (some x20.fN) fun q21=>match q21 with
   | none=>
    none
   | some z22=>
    bnd (o_tNd z22) fun x24=>
    bnd (if x20.fNext=(x24.fItems.length:Int) then
     bnd (walk_stack_row_Row_forth s10.2.2) fun x29=>
     some x29.2
    else
     some s10.2.2:Option (List wFr)) fun t26=>
    bnd (walk_stack_row_Row_top t26) fun x31=>
    bnd (idx t26 x31) fun x32=>
    bnd (some x32.fN) fun q33=>match q33 with
     | none=>
      none
     | some z34=>
      bnd (o_tNd z34) fun x36=>
      bnd (idx x36.fItems x32.fNext) fun x38=>
      bnd (grid_Grid_Visible_r0_2 s10.1 x38 s10.2.1) fun x39=>
      some (Lp.next (w64 (s10.1+1),x39,(t26.set x31.toNat (⟨x32.fN,x32.fFirst,w64 (x32.fNext+1)⟩:wFr))))
 else
  some (Lp.done s10.2.1)
noncomputable def walk_Range_row_Row_1 (a0:Int) (a1:Int) (a2:Option NP):Option (List Int):=
 if a0=a1 then
 some []
else
 bnd (tree_Tree_row_Row_Root (⟨a2⟩:tTr)) fun x4=>
 match x4 with
| .inl x4=>
 none
| .inr x4=>
 bnd (walk_stack_row_Row_down x4.1 x4.2.1 x4.2.2 0 a0) fun x5=>
 bnd (loop (walk_Range_row_Row_1.l1 a1) (a0,[],x5):Option (List Int)) fun t6=>
 some t6
theorem walk_Range_row_Row_1_c {a0:Int} {a1:Int} {a2:Option NP} {b0:Nat} {b1:Nat} {b2:Nat} {b3:Nat} {b4:Nat} {res:(List Int)} (h0:walk_Range_row_Row_1 a0 a1 a2=some res):CallF X 146 [.fn (.yield b0) [] [],dP b1,dP b2,dP b3] [.lp b0 .ready none [11,12] rfA51_0 rfB51_0 [(3,(dP b4))] 21,.var b1 [dN a0] 3,.var b2 [dN a1] 3,.var b3 [(eOP a2)] 25,.var b4 [.val (.slice none 0 0)] 76] (fun x=>.tup []) (fun x=>[.lp b0 .ready none [11,12] rfA51_0 rfB51_0 [(3,(dP b4))] 21,.var b1 [dN a0] 3,.var b2 [dN a1] 3,.var b3 [(eOP a2)] 25,.var b4 [.val (vn x 0)] 76,.row (vn x 0) (List.map (eI .i64) res) 1 3]):=by
 unfold walk_Range_row_Row_1 at h0;refine CallF.mkG (X:=X) rfl Tryz.func146 rfl rfl Tryz.ntmps146 rfl rfl ?_;refine T.seq ?_;refine aS ?_;refine TL.op1 (OpR.loadPtr 1 rfl rfl rfl rfl) rfl ?_;refine TL.op1 (OpR.loadPtr 2 rfl rfl rfl rfl) rfl ?_;refine aA rfl rfl ?_;refine aN rfl ?_;rcases ite_some h0 with ⟨c1,h0⟩|⟨c1,h0⟩
 ·refine T.condT rfl (beq_iff_eq.2 c1) ?_;refine T.ret ?_;obtain rfl:=osi h0;exact PostG.retP (ks:=[0,1,2,3,4,5]) (Gst.trans (Gst.only [] rfl) (Gst.nilRow (ow:=[.lp b0 .ready none [11,12] rfA51_0 rfB51_0 [(3,(dP b4))] 21,.var b1 [dN a0] 3,.var b2 [dN a1] 3,.var b3 [(eOP a2)] 25,.var b4 [.val (.slice none 0 0)] 76]) 1 3 rfl)) (.tuple #[(.slice none 0 0)]) ResL.nil rfl rfl rfl rfl
 refine T.condF rfl (beq_eq_false_iff_ne.2 c1) ?_;refine aK rfl ?_;refine aS ?_;refine TL.op (OpR.alloc rfl rfl (fun _=>rfl)) rfl (fun p2=>?_);refine aN rfl ?_;refine T.seq ?_;obtain⟨x4,hx4,h0⟩:=bS h0;rcases x4 with x4|x4
 ·dsimp only at h0;exact (by cases h0)
 dsimp only at h0;obtain⟨x5,hx5,h0⟩:=bS h0;refine T.drawS drawsX (fun env3=>[.agg [(eOP a2)],.nod [.sl 1 (List.map eNP x4.1),.sl 3 (List.map e_row_Row x4.2.1),dN x4.2.2],dN a0,.tup []]) (fun D env3=>[.lp b0 .ready none [11,12] rfA51_0 rfB51_0 [(3,(dP b4))] 21,.var b1 [dN a0] 3,.var b2 [dN a1] 3,.var b3 [(eOP a2)] 25,.var b4 [.val (.slice none 0 0)] 76,(bif D 3 then .var (blk p2) [.val (vn (env3 3) 0)] 228 else .var (blk p2) [.val (.slice none 0 0)] 228)]++(bif D 3 then [.row (vn (env3 3) 0) (List.map e_wFr x5) 3 234] else [])) [0,1,0,7] [0,1,2,5] _ (by decide +kernel) (by decide +kernel) (fun _=>rfl) (fun _=>rfl) ?_ (fun _=>rfl) (fun _=>rfl) ?_
 ·refine oT (.agg [(eOP a2)]) (fun _ _=>OpR.loadPtr 3 rfl rfl rfl rfl) ?_;refine oT (.nod [.sl 1 (List.map eNP x4.1),.sl 3 (List.map e_row_Row x4.2.1),dN x4.2.2]) (fun _ _=>OpR.call0 fn148 (tree_Tree_row_Row_Root_cx2 hx4) rfl) ?_;refine oT ((dN a0)) (fun _ _=>OpR.loadPtr 1 rfl rfl rfl rfl) ?_;refine OpsS.cons' true ?_ (fun D hA env3 x j hj hD=>match j,hj,hD with|0,_,_=>rfl|1,_,_=>rfl|2,_,_=>rfl|3,hj,_=>absurd rfl hj|_+4,_,_=>rfl) ?_
  ·intro D env3 hA;exact OpS.yp [(3,false)] ⟨hA.me,trivial⟩ (Want.plain rfl) (OpR.call [5] fn147 (walk_stack_row_Row_down_c hx5) rfl rfl rfl (fun _=>rfl)) (fun x=>rfl) (fun x=>rfl)
  exact trivial
 intro env3;show T X _ _ _;refine aS ?_;refine TL.op1 (OpR.loadPtr 1 rfl rfl rfl rfl) rfl ?_;refine aA rfl rfl ?_;refine aN rfl ?_;obtain⟨t6,ht6,h0⟩:=bS h0;refine T.cutN (fun S'=>∃ y7:Value,S'=⟨[],[.lp b0 .ready none [11,12] rfA51_0 rfB51_0 [(3,(dP b4))] 21,.var b1 [dN a0] 3,.var b2 [dN a1] 3,.var b3 [(eOP a2)] 25,.var b4 [.val y7] 76,.row y7 (List.map (eI .i64) t6) 1 3],62⟩) (fun _ _ g ⟨h,S',ds,g',r⟩=>⟨h,S',ds,Gst.trans g g',r⟩) ?_ ?_;rotate_left
 ·rintro _ ⟨y7,rfl⟩;obtain rfl:=osi h0;exact PostG.finP (ks:=[0,1,2,3,4,5]) (Gst.only [] rfl) (.tuple #[y7]) ResL.nil rfl rfl rfl rfl
 refine T.block ?_;obtain⟨n11,n16⟩:=loop_some ht6;refine T.loop (fun n S'=>∃ S'',Gst S' S''∧∃ y8:Value,∃ y9:Value,∃ s10:Int × (List Int) × (List wFr),S''=⟨[(6,(dN s10.1)),(5,(dP (blk p2))),(2,(dP b2)),(0,.fn (.yield b0) [] [])],[.lp b0 .ready none [11,12] rfA51_0 rfB51_0 [(3,(dP b4))] 21,.var b1 [dN a0] 3,.var b2 [dN a1] 3,.var b3 [(eOP a2)] 25,.var b4 [.val y8] 76,.var (blk p2) [.val y9] 228,.row y8 (List.map (eI .i64) s10.2.1) 1 3,.row y9 (List.map e_wFr s10.2.2) 3 234],62⟩∧iter (walk_Range_row_Row_1.l1 a1) n s10=some t6) n11 ?_ ?_
 ·exact⟨_,Gst.trans (Gst.only [0,2,5,6] rfl) (Gst.trans (Gst.nilRow (ow:=[.lp b0 .ready none [11,12] rfA51_0 rfB51_0 [(3,(dP b4))] 21,.var b1 [dN a0] 3,.var b2 [dN a1] 3,.var b3 [(eOP a2)] 25,.var b4 [.val (.slice none 0 0)] 76,.var (blk p2) [.val (vn (env3 3) 0)] 228,.row (vn (env3 3) 0) (List.map e_wFr x5) 3 234]) 1 3 rfl) (Gst.pick [0,1,2,3,4,5,7,6] rfl rfl)),(.slice none 0 0),(vn (env3 3) 0),(a0,[],x5),rfl,n16⟩
 rintro n11 _ ⟨_,g,y8,y9,s10,rfl,i15⟩;refine T.ghost g ?_;obtain⟨m12,q13,rfl,q14,i15⟩:=iter_succ i15;unfold walk_Range_row_Row_1.l1 at q14;refine T.seq ?_;refine aS ?_;refine aA rfl rfl ?_;refine TL.op1 (OpR.loadPtr 2 rfl rfl rfl rfl) rfl ?_;refine aA rfl rfl ?_;refine aN rfl ?_;rcases ite_some q14 with ⟨c18,q14⟩|⟨c18,q14⟩;rotate_left
 ·refine T.condF rfl (eF c18) ?_;refine T.exit ?_;obtain rfl:=osi q14;obtain rfl:_=_:=i15;exact⟨_,gP [] [0,1,2,3,4,6] rfl rfl rfl,y8,rfl⟩
 refine T.condT rfl (eT c18) ?_;refine aK rfl ?_;refine T.seq ?_;refine T.block ?_;refine T.seq ?_;refine aS ?_;obtain⟨x19,hx19,q14⟩:=bS q14;refine TL.op1 (OpR.call [5,7] fn149 (walk_stack_row_Row_top_c hx19) rfl rfl rfl (fun _=>rfl)) rfl ?_;refine aA rfl rfl ?_;refine aN rfl ?_;refine T.seq ?_;obtain⟨x20,hx20,q14⟩:=bS q14;obtain⟨q21,hq21,q14⟩:=bS q14;rcases q21 with _|z22
 ·dsimp only at q14;exact (by cases q14)
 dsimp only at q14;obtain⟨x24,hx24,q14⟩:=bS q14;rw[o_tNd_eq hx24] at hq21;refine T.drawQ drawsX [.val (.pointer (some ⟨blk y9,x19.toNat*3,none⟩)),.val (.pointer (some ⟨blk y9,x19.toNat*3,none⟩)),.val (.pointer (some ⟨blk y9,x19.toNat*3+2,none⟩)),dN x20.fNext,.val (.pointer (some ⟨blk y9,x19.toNat*3,none⟩)),.val (.pointer (some ⟨blk y9,x19.toNat*3,none⟩)),.val (.pointer (some ⟨blk y9,x19.toNat*3,none⟩)),.nod [.sl 1 (List.map eNP x24.fKids),.sl 3 (List.map e_row_Row x24.fItems),dN x24.fN],.nod [.sl 1 (List.map eNP x24.fKids),.sl 3 (List.map e_row_Row x24.fItems),dN x24.fN],.nod [.sl 3 (List.map e_row_Row x24.fItems),dN x24.fN],.sl 3 (List.map e_row_Row x24.fItems),dN (x24.fItems.length:Int),dT (x20.fNext==(x24.fItems.length:Int))] [0,2,5,6,35] (by decide +kernel) rfl ?_ rfl ?_
 ·iterate 3 refine aB rfl rfl rfl ?_
  refine OpsQ.yes (Want.plain rfl) rfl (OpR.rowLoadM (j:=x19) e_wFr 7 hx20 rfl rfl rfl rfl) ?_;iterate 3 refine aB rfl rfl rfl ?_
  refine OpsQ.yes (Want.plain rfl) rfl (OpR.cast (OpR.rowLoad0M (j:=x19) e_wFr 7 hx20 rfl rfl rfl rfl) (congrArg eOP (osi hq21))) ?_;iterate 3 refine aB rfl rfl rfl ?_
  refine OpsQ.yes (Want.plain rfl) rfl (OpR.cast (OpR.pure rfl) (intE (lenM _ _))) ?_;refine aB rfl rfl rfl ?_;exact OpsQ.nil
 show T X _ _ _;obtain⟨t26,ht26,q14⟩:=bS q14;refine T.cutC (fun S'=>∃ y27:Value,S'=⟨[(6,(dN s10.1)),(5,(dP (blk p2))),(2,(dP b2)),(0,.fn (.yield b0) [] [])],[.lp b0 .ready none [11,12] rfA51_0 rfB51_0 [(3,(dP b4))] 21,.var b1 [dN a0] 3,.var b2 [dN a1] 3,.var b3 [(eOP a2)] 25,.var b4 [.val y8] 76,.var (blk p2) [.val y27] 228,.row y8 (List.map (eI .i64) s10.2.1) 1 3,.row y27 (List.map e_wFr t26) 3 234],62⟩) (fun _ h=>h) ?_ ?_
 ·rcases ite_some ht26 with ⟨c28,ht26⟩|⟨c28,ht26⟩;rotate_left
  ·refine T.condF rfl (beq_eq_false_iff_ne.2 c28) ?_;refine T.skip ?_;obtain rfl:=osi ht26;exact⟨_,Gst.only [0,2,5,6] rfl,y9,rfl⟩
  refine T.condT rfl (beq_iff_eq.2 c28) ?_;refine T.region ?_;obtain⟨x29,hx29,ht26⟩:=bS ht26;refine TL.op (OpR.call [5,7] fn150 (walk_stack_row_Row_forth_c hx29) rfl rfl rfl (fun _=>rfl)) rfl (fun w30=>?_);refine TL.nil ?_;obtain rfl:=osi ht26;exact⟨_,Gst.only [0,2,5,6] rfl,(vn w30 0),rfl⟩
 rintro _ ⟨y27,rfl⟩;show T X _ _ _;refine aS ?_;obtain⟨x31,hx31,q14⟩:=bS q14;refine TL.op1 (OpR.call [5,7] fn149 (walk_stack_row_Row_top_c hx31) rfl rfl rfl (fun _=>rfl)) rfl ?_;refine aA rfl rfl ?_;refine aN rfl ?_;refine T.seq ?_;refine T.seq ?_;obtain⟨x32,hx32,q14⟩:=bS q14;obtain⟨q33,hq33,q14⟩:=bS q14;rcases q33 with _|z34
 ·dsimp only at q14;exact (by cases q14)
 dsimp only at q14;obtain⟨x36,hx36,q14⟩:=bS q14;rw[o_tNd_eq hx36] at hq33;obtain⟨x38,hx38,q14⟩:=bS q14;obtain⟨x39,hx39,q14⟩:=bS q14;refine T.drawS drawsX (fun env37=>[.fn (.yield b0) [] [],dN s10.1,.val (.pointer (some ⟨blk y27,x31.toNat*3,none⟩)),.val (.pointer (some ⟨blk y27,x31.toNat*3,none⟩)),.val (.pointer (some ⟨blk y27,x31.toNat*3,none⟩)),.nod [.sl 1 (List.map eNP x36.fKids),.sl 3 (List.map e_row_Row x36.fItems),dN x36.fN],.nod [.sl 1 (List.map eNP x36.fKids),.sl 3 (List.map e_row_Row x36.fItems),dN x36.fN],.nod [.sl 3 (List.map e_row_Row x36.fItems),dN x36.fN],.sl 3 (List.map e_row_Row x36.fItems),.val (.pointer (some ⟨blk y27,x31.toNat*3,none⟩)),.val (.pointer (some ⟨blk y27,x31.toNat*3,none⟩)),.val (.pointer (some ⟨blk y27,x31.toNat*3+2,none⟩)),dN x32.fNext,.nod [.sl 5 (List.map e_cell_Cell x38.fCells),dN x38.fEnd,dT x38.fHidden],.agg [.sl 5 (List.map e_cell_Cell x38.fCells),dN x38.fEnd,dT x38.fHidden],dT true,dT false]) (fun D env37=>[.lp b0 .ready none [11,12] rfA51_0 rfB51_0 [(3,(dP b4))] 21,.var b1 [dN a0] 3,.var b2 [dN a1] 3,.var b3 [(eOP a2)] 25,(bif D 15 then .var b4 [.val (vn (env37 15) 0)] 76 else .var b4 [.val y8] 76),.var (blk p2) [.val y27] 228,(bif D 15 then .row (vn (env37 15) 0) (List.map (eI .i64) x39) 1 3 else .row y8 (List.map (eI .i64) s10.2.1) 1 3),.row y27 (List.map e_wFr t26) 3 234]) [0,0,0,4,12,28,60,124,252,0,512,1536,3584,8188,16380,32767,65535] [0,2,5,6,8,54] _ (by decide +kernel) (by decide +kernel) (fun _=>rfl) (fun _=>rfl) ?_ (fun _=>rfl) (fun _=>rfl) ?_;rotate_left
 ·intro env37;show T X _ _ _;refine T.condF rfl rfl ?_;refine aK rfl ?_;refine T.region ?_;iterate 3 refine aA rfl rfl ?_
  refine TL.op1 (OpR.rowLoadM (j:=x31) e_wFr 7 hx32 rfl rfl rfl rfl) rfl ?_;iterate 3 refine aA rfl rfl ?_
  refine TL.op0 (OpR.rowStoreM (j:=x31) e_wFr (⟨x32.fN,x32.fFirst,w64 (x32.fNext+1)⟩:wFr) 7 hx32 rfl rfl rfl rfl rfl rfl rfl rfl rfl) ?_;refine aN rfl ?_;refine T.region ?_;iterate 3 refine aA rfl rfl ?_
  refine TL.nil ?_;obtain rfl:=osi q14;exact⟨m12,Nat.lt_succ_self _,_,Gst.only [0,2,5,6] rfl,(vn (env37 15) 0),y27,(w64 (s10.1+1),x39,(t26.set x31.toNat (⟨x32.fN,x32.fFirst,w64 (x32.fNext+1)⟩:wFr))),rfl,i15⟩
 iterate 5 refine aC ?_
 refine oT (.nod [.sl 1 (List.map eNP x36.fKids),.sl 3 (List.map e_row_Row x36.fItems),dN x36.fN]) (fun _ _=>OpR.cast (OpR.rowLoad0M (j:=x31) e_wFr 7 hx32 rfl rfl rfl rfl) (congrArg eOP (osi hq33))) ?_;iterate 6 refine aC ?_
 refine oT ((dN x32.fNext)) (fun _ _=>OpR.rowLoadM (j:=x31) e_wFr 7 hx32 rfl rfl rfl rfl) ?_;refine oT (.nod [.sl 5 (List.map e_cell_Cell x38.fCells),dN x38.fEnd,dT x38.fHidden]) (fun _ _=>OpR.indexM e_row_Row hx38 rfl rfl rfl rfl rfl) ?_;refine aC ?_;refine OpsS.cons' true ?_ (fun D hA env37 x j hj hD=>match j,hj,hD with|0,_,_=>rfl|1,_,_=>rfl|2,_,_=>rfl|3,_,_=>rfl|4,_,_=>rfl|5,_,_=>rfl|6,_,_=>rfl|7,_,_=>rfl|8,_,_=>rfl|9,_,_=>rfl|10,_,_=>rfl|11,_,_=>rfl|12,_,_=>rfl|13,_,_=>rfl|14,_,_=>rfl|15,hj,_=>absurd rfl hj|16,_,_=>rfl|_+17,_,_=>rfl) ?_
 ·intro D env37 hA;exact OpS.yp [(15,false)] ⟨hA.me,trivial⟩ (Want.plain rfl) (OpR.callY [0,4,6] rfl (grid_Grid_Visible_r0_2_c hx39) rfl rfl rfl (fun _=>rfl)) (fun x=>rfl) (fun x=>rfl)
 refine aC ?_;exact trivial
noncomputable def grid_Grid_Visible (a0:grid_Grid):Option (List Int):=
 bnd (grid_Grid_Len a0) fun x3=>
 bnd (walk_Range_row_Row a0.fRows 0 x3) fun x4=>
 bnd (walk_Range_row_Row_1 x4.1 x4.2.1 x4.2.2) fun x6=>
 some x6
theorem grid_Grid_Visible_c {a0:grid_Grid} {res:(List Int)} (h0:grid_Grid_Visible a0=some res):CallF X 51 [.agg [(eOP a0.fRows.fRoot),dT a0.fTail,dN a0.fEnd]] [] (fun x=>.sl 1 (List.map (eI .i64) res)) (fun x=>[]):=by
 unfold grid_Grid_Visible at h0;refine CallF.mkG (X:=X) rfl Tryz.func51 rfl rfl Tryz.ntmps51 rfl rfl ?_;refine aS ?_;refine TL.op1 (OpR.boxImm rfl rfl) rfl ?_;refine aA rfl rfl ?_;refine aN rfl ?_;refine aS ?_;refine TL.op (OpR.alloc rfl rfl (fun _=>rfl)) rfl (fun p1=>?_);refine aN rfl ?_;refine T.seq ?_;refine T.seq ?_;obtain⟨x3,hx3,h0⟩:=bS h0;obtain⟨x4,hx4,h0⟩:=bS h0;refine T.drawS drawsX (fun env2=>[.nod [(eOP a0.fRows.fRoot),dT a0.fTail,dN a0.fEnd],.agg [(eOP a0.fRows.fRoot)],.agg [(eOP a0.fRows.fRoot),dT a0.fTail,dN a0.fEnd],dN x3,.fn (.func 146) [] [dP (blk (vn (env2 4) 0)),dP (blk (vn (env2 4) 1)),dP (blk (vn (env2 4) 2))]]) (fun D env2=>[.var (blk p1) [.val (.slice none 0 0)] 76]++(bif D 4 then [.var (blk (vn (env2 4) 0)) [dN x4.1] 3] else [])++(bif D 4 then [.var (blk (vn (env2 4) 1)) [dN x4.2.1] 3] else [])++(bif D 4 then [.var (blk (vn (env2 4) 2)) [(eOP x4.2.2)] 25] else [])) [0,1,0,4,15] [2,3,10] _ (by decide +kernel) (by decide +kernel) (fun _=>rfl) (fun _=>rfl) ?_ (fun _=>rfl) (fun _=>rfl) ?_;rotate_left
 ·intro env2;show T X _ _ _;refine T.block ?_;obtain⟨x6,hx6,h0⟩:=bS h0;refine T.rangeN (A:=rfA51_0) (B:=rfB51_0) [3] [1,2,3,0] (.inl rfl) rfl rfl rfl rfl rfl fn146 rfl rfl (fun l5=>(walk_Range_row_Row_1_c hx6)) (fun _=>rfl) (fun w7=>?_);show T X _ _ _;refine aS ?_;refine TL.op1 (OpR.loadPtr 0 rfl rfl rfl rfl) rfl ?_;refine aA rfl rfl ?_;refine aN rfl ?_;refine T.ret ?_;obtain rfl:=osi h0;exact PostG.retP (ks:=[]) (Gst.trans (Gst.only [2] rfl) (Gst.trans (Gst.freezeRow 4 rfl rfl (ReS.cons (Re.base .all) ReS.nil) (ReO.var (ReL.cons (Re.base .all) ReL.nil) (ReO.same (ReO.same (ReO.same (ReO.same ReO.nil)))))) (Gst.pick [] rfl rfl))) undef (cT rfl ResL.nil) rfl rfl rfl rfl
 iterate 3 refine aC ?_
 refine oT ((dN x3)) (fun _ _=>OpR.call0 fn22 (grid_Grid_Len_c hx3) rfl) ?_;refine OpsS.cons' true ?_ (fun D hA env2 x j hj hD=>match j,hj,hD with|0,_,_=>rfl|1,_,_=>rfl|2,_,_=>rfl|3,_,_=>rfl|4,hj,_=>absurd rfl hj|_+5,_,_=>rfl) ?_
 ·intro D env2 hA;exact OpS.yp [(4,false)] ⟨hA.me,trivial⟩ (Want.plain rfl) (OpR.call [] fn80 (walk_Range_row_Row_c hx4) rfl rfl rfl (fun _=>rfl)) (fun x=>rfl) (fun x=>rfl)
 exact trivial
noncomputable def order_visible.l1 (a0:grid_Grid) (x1:(List Int)) (s5:Int × (List row_Row)):Option (Lp (Int × (List row_Row)) (List row_Row)):=
 if s5.1<(x1.length:Int) then
 bnd (idx x1 s5.1) fun x14=>
 bnd (grid_Grid_Row a0 x14) fun x15=>
 bnd (idx s5.2 s5.1) fun x16=>
 some (Lp.next (w64 (s5.1+1),(s5.2.set s5.1.toNat x15.1)))
else
 some (Lp.done s5.2)
noncomputable def order_visible (a0:grid_Grid):Option ((List row_Row) × (List Int)):=
 bnd (grid_Grid_Visible a0) fun x1=>
 bnd (mkz 40 (x1.length:Int) ((⟨[],0,false⟩:row_Row):row_Row)) fun x2=>
 bnd (loop (order_visible.l1 a0 x1) (0,x2):Option (List row_Row)) fun t4=>
 some (t4,x1)
theorem order_visible_c {a0:grid_Grid} {res:(List row_Row) × (List Int)} (h0:order_visible a0=some res):CallF X 104 [.agg [(eOP a0.fRows.fRoot),dT a0.fTail,dN a0.fEnd]] [] (fun x=>.tup [.sl 3 (List.map e_row_Row res.1),.sl 1 (List.map (eI .i64) res.2)]) (fun x=>[]):=by
 unfold order_visible at h0;refine CallF.mkG (X:=X) rfl Tryz.func104 rfl rfl Tryz.ntmps104 rfl rfl ?_;refine aS ?_;refine TL.op1 (OpR.boxImm rfl rfl) rfl ?_;iterate 2 refine aA rfl rfl ?_
 refine aN rfl ?_;refine aS ?_;refine aA rfl rfl ?_;obtain⟨x1,hx1,h0⟩:=bS h0;refine TL.op1 (OpR.call0 fn51 (grid_Grid_Visible_c hx1) rfl) rfl ?_;refine aA rfl rfl ?_;refine aN rfl ?_;refine aS ?_;refine aA rfl rfl ?_;refine TL.op1 (OpR.cast (OpR.pure rfl) (intE (lenM _ _))) rfl ?_;obtain⟨x2,hx2,h0⟩:=bS h0;refine TL.op (OpR.makeN e_row_Row hx2 rfl rfl rfl rfl rfl rfl rfl rfl rfl rfl (ReL.cons (Re.base .nil) (ReL.cons Re.refl (ReL.cons Re.refl ReL.nil))) rfl (fun _=>rfl)) rfl (fun v3=>?_);refine aA rfl rfl ?_;refine aN rfl ?_;refine T.seq ?_;refine aS ?_;refine aA rfl rfl ?_;refine TL.op1 (OpR.cast (OpR.pure rfl) (intE (lenM _ _))) rfl ?_;refine aA rfl rfl ?_;refine aN rfl ?_;obtain⟨t4,ht4,h0⟩:=bS h0;refine T.cutC (fun S'=>S'=⟨[(5,.val v3),(4,.sl 1 (List.map (eI .i64) x1)),(3,.val (.slice none 0 0)),(2,.val (.slice none 0 0))],[.row v3 (List.map e_row_Row t4) 3 49],32⟩) (fun _ h=>h) ?_ ?_;rotate_left
 ·rintro _ rfl;show T X _ _ _;refine aS ?_;iterate 4 refine aA rfl rfl ?_
  refine aN rfl ?_;refine T.ret ?_;obtain rfl:=osi h0;exact PostG.retP (ks:=[]) (Gst.trans (Gst.only [2,3] rfl) (Gst.trans (Gst.freezeRow 0 rfl rfl (ReS.cons Re.refl (ReS.cons (Re.base .all) ReS.nil)) (ReO.same ReO.nil)) (Gst.pick [] rfl rfl))) undef (cT rfl (cT rfl ResL.nil)) rfl rfl rfl rfl
 refine T.block ?_;obtain⟨n6,n11⟩:=loop_some ht4;refine T.loop (fun n S'=>∃ S'',Gst S' S''∧∃ s5:Int × (List row_Row),S''=⟨[(15,(dN s5.1)),(14,(dN (x1.length:Int))),(13,.sl 1 (List.map (eI .i64) x1)),(5,.val v3),(4,.sl 1 (List.map (eI .i64) x1)),(3,.val (.slice none 0 0)),(2,.val (.slice none 0 0)),(1,.nod [(eOP a0.fRows.fRoot),dT a0.fTail,dN a0.fEnd])],[.row v3 (List.map e_row_Row s5.2) 3 49],32⟩∧iter (order_visible.l1 a0 x1) n s5=some t4) n6 ?_ ?_
 ·exact⟨_,Gst.only [1,2,3,4,5,13,14,15] rfl,(0,x2),rfl,n11⟩
 rintro n6 _ ⟨_,g,s5,rfl,i10⟩;refine T.ghost g ?_;obtain⟨m7,q8,rfl,q9,i10⟩:=iter_succ i10;unfold order_visible.l1 at q9;refine aS ?_;refine aA rfl rfl ?_;refine aN rfl ?_;refine T.seq ?_;rcases ite_some q9 with ⟨c13,q9⟩|⟨c13,q9⟩;rotate_left
 ·refine T.condF rfl (eF c13) ?_;refine T.exit ?_;obtain rfl:=osi q9;obtain rfl:_=_:=i10;exact⟨_,Gst.only [2,3,4,5] rfl,rfl⟩
 refine T.condT rfl (eT c13) ?_;refine aK rfl ?_;refine T.seq ?_;refine T.block ?_;refine aS ?_;refine aA rfl rfl ?_;obtain⟨x14,hx14,q9⟩:=bS q9;refine TL.op1 (OpR.indexM (eI .i64) hx14 rfl rfl rfl rfl rfl) rfl ?_;iterate 3 refine aA rfl rfl ?_
 refine aN rfl ?_;refine T.region ?_;iterate 4 refine aA rfl rfl ?_
 obtain⟨x15,hx15,q9⟩:=bS q9;refine TL.op1 (OpR.call0 fn24 (grid_Grid_Row_c hx15) rfl) rfl ?_;iterate 3 refine aA rfl rfl ?_
 obtain⟨x16,hx16,q9⟩:=bS q9;refine TL.op1 (OpR.rowIndexM e_row_Row 0 hx16 rfl rfl rfl rfl rfl rfl rfl) rfl ?_;refine TL.op0 (OpR.rowStore0M (j:=s5.1) e_row_Row x15.1 0 hx16 rfl rfl rfl rfl rfl rfl rfl rfl rfl) ?_;refine aN rfl ?_;refine T.region ?_;iterate 2 refine aA rfl rfl ?_
 refine TL.nil ?_;obtain rfl:=osi q9;exact⟨m7,Nat.lt_succ_self _,_,Gst.only [1,2,3,4,5,13,14,15] rfl,(w64 (s5.1+1),(s5.2.set s5.1.toNat x15.1)),rfl,i10⟩
noncomputable def order_standing (a0:List order_By) (a1:List UInt8):Option (List order_By):=
 some a0
theorem order_standing_c {a0:List order_By} {a1:List UInt8} {b0:Nat} {v1:Value} {res:(List order_By)} (h0:order_standing a0 a1=some res):CallF X 105 [dP b0,.sl 2 (List.map e_order_By a0)] [.var b0 [.val v1] 264,.row v1 (lB a1) 1 5] (fun x=>.fn (.func 170) [] [dP (blk (vn x 0)),dP (blk (vn x 1))]) (fun x=>[.var b0 [.val v1] 264,.row v1 (lB a1) 1 5,.var (blk (vn x 0)) [.sl 2 (List.map e_order_By res)] 104,.var (blk (vn x 1)) [dP b0] 28]):=by
 unfold order_standing at h0;refine CallF.mkG (X:=X) rfl Tryz.func105 rfl rfl Tryz.ntmps105 rfl rfl ?_;refine aS ?_;refine TL.op (OpR.boxVar rfl rfl (fun _=>rfl)) rfl (fun p1=>?_);refine TL.op (OpR.boxVar rfl rfl (fun _=>rfl)) rfl (fun p2=>?_);refine aA rfl rfl ?_;refine aN rfl ?_;refine aS ?_;iterate 2 refine aA rfl rfl ?_
 refine aN rfl ?_;refine T.ret ?_;obtain rfl:=osi h0;exact rP [0,1,2,3] [4] [0,1,3,2] rfl rfl rfl (.tuple #[p2,p1]) (cT rfl ResL.nil) rfl rfl rfl rfl
noncomputable def row_Row_has (a0:row_Row) (a1:Int):Option Bool:=
 bnd (if a1≥0 then
 some (decide (a1<(a0.fCells.length:Int)))
else
 some false:Option Bool) fun t1=>
 some t1
theorem row_Row_has_c {a0:row_Row} {a1:Int} {res:Bool} (h0:row_Row_has a0 a1=some res):CallF X 158 [.agg [.sl 5 (List.map e_cell_Cell a0.fCells),dN a0.fEnd,dT a0.fHidden],dN a1] [] (fun x=>(dT res)) (fun x=>[]):=by
 unfold row_Row_has at h0;refine CallF.mkG (X:=X) rfl Tryz.func158 rfl rfl Tryz.ntmps158 rfl rfl ?_;refine aS ?_;refine TL.op1 (OpR.boxImm rfl rfl) rfl ?_;refine aA rfl rfl ?_;refine aN rfl ?_;refine T.seq ?_;obtain⟨t1,ht1,h0⟩:=bS h0;refine T.cutC (fun S'=>S'=⟨[(4,(dT t1))],[],14⟩) (fun _ h=>h) ?_ ?_;rotate_left
 ·rintro _ rfl;show T X _ _ _;refine T.ret ?_;obtain rfl:=osi h0;exact rO [] [4] rfl undef (cT rfl ResL.nil) rfl rfl rfl rfl
 refine T.region ?_;iterate 3 refine aA rfl rfl ?_
 rcases ite_some ht1 with ⟨c2,ht1⟩|⟨c2,ht1⟩;rotate_left
 ·refine TL.off rfl rfl rfl rfl (eF c2) rfl rfl ?_;refine TL.off rfl rfl rfl rfl (eF c2) rfl rfl ?_;refine TL.off rfl rfl rfl rfl (eF c2) rfl rfl ?_;refine TL.off rfl rfl rfl rfl (eF c2) rfl rfl ?_;refine TL.off rfl rfl rfl rfl (eF c2) rfl rfl ?_;refine TL.op1 (OpR.pickF rfl (eF c2) rfl) rfl ?_;refine aA rfl rfl ?_;refine TL.nil ?_;obtain rfl:=osi ht1;exact⟨_,Gst.only [4] rfl,rfl⟩
 refine TL.on rfl rfl rfl rfl (eT c2) ?_;refine aA rfl rfl ?_;refine TL.on rfl rfl rfl rfl (eT c2) ?_;refine aA rfl rfl ?_;refine TL.on rfl rfl rfl rfl (eT c2) ?_;refine aA rfl rfl ?_;refine TL.on rfl rfl rfl rfl (eT c2) ?_;refine TL.op1 (OpR.cast (OpR.pure rfl) (intE (lenM _ _))) rfl ?_;refine TL.on rfl rfl rfl rfl (eT c2) ?_;refine aA rfl rfl ?_;refine TL.op1 (OpR.pickT rfl (eT c2) rfl) rfl ?_;refine aA rfl rfl ?_;refine TL.nil ?_;obtain rfl:=osi ht1;exact⟨_,Gst.only [4] rfl,rfl⟩
noncomputable def row_Row_At (a0:row_Row) (a1:Int):Option (cell_Cell × Bool):=
 bnd (row_Row_has a0 a1) fun x2=>
 if x2=true then
 bnd (idx a0.fCells a1) fun x4=>
 some (x4,true)
else
 some ((⟨(⟨[],0⟩:piece_Text),(⟨0,0⟩:arena_Span),false⟩:cell_Cell),false)
theorem row_Row_At_c {a0:row_Row} {a1:Int} {res:cell_Cell × Bool} (h0:row_Row_At a0 a1=some res):CallF X 111 [.agg [.sl 5 (List.map e_cell_Cell a0.fCells),dN a0.fEnd,dT a0.fHidden],dN a1] [] (fun x=>.tup [.agg [.sl 2 (List.map e_arena_Span res.1.fText.fL),dN res.1.fText.fN,dN res.1.fRaw.fAt,dN res.1.fRaw.fN,dT res.1.fKept],dT res.2]) (fun x=>[]):=by
 unfold row_Row_At at h0;refine CallF.mkG (X:=X) rfl Tryz.func111 rfl rfl Tryz.ntmps111 rfl rfl ?_;refine aS ?_;refine TL.op1 (OpR.boxImm rfl rfl) rfl ?_;refine TL.op (OpR.alloc rfl rfl (fun _=>rfl)) rfl (fun p1=>?_);refine aA rfl rfl ?_;refine aN rfl ?_;refine T.seq ?_;refine aS ?_;iterate 2 refine aA rfl rfl ?_
 obtain⟨x2,hx2,h0⟩:=bS h0;refine TL.op1 (OpR.call0 fn158 (row_Row_has_c hx2) rfl) rfl ?_;refine aA rfl rfl ?_;refine aN rfl ?_;rcases ite_some h0 with ⟨c3,h0⟩|⟨c3,h0⟩;rotate_left
 ·refine T.condT rfl (not_f (eq_false_of_ne_true c3)) ?_;refine aS ?_;refine TL.op1 (OpR.build rfl rfl rfl rfl rfl) rfl ?_;refine TL.op0 (OpR.store 0 rfl rfl rfl rfl rfl rfl rfl rfl) ?_;refine aA rfl rfl ?_;refine aN rfl ?_;refine T.ret ?_;obtain rfl:=osi h0;exact PostG.retP (ks:=[]) (Gst.trans (Gst.only [4,5] rfl) (Gst.denil (ReS.cons Re.refl (ReS.cons Re.refl ReS.nil)) (ReO.var (ReL.cons (Re.base .nil) (ReL.cons Re.refl (ReL.cons Re.refl (ReL.cons Re.refl (ReL.cons Re.refl ReL.nil))))) ReO.nil))) undef (cV 0 rfl rfl rfl rfl (cT rfl ResL.nil)) rfl rfl rfl rfl
 refine T.condF rfl (not_t (c3)) ?_;refine aK rfl ?_;refine aS ?_;iterate 3 refine aA rfl rfl ?_
 obtain⟨x4,hx4,h0⟩:=bS h0;refine TL.op1 (OpR.indexM e_cell_Cell hx4 rfl rfl rfl rfl rfl) rfl ?_;refine aA rfl rfl ?_;refine TL.op0 (OpR.store 0 rfl rfl rfl rfl rfl rfl rfl rfl) ?_;refine aA rfl rfl ?_;refine aN rfl ?_;refine T.ret ?_;obtain rfl:=osi h0;exact rO [] [4,5] rfl undef (cV 0 rfl rfl rfl rfl (cT rfl ResL.nil)) rfl rfl rfl rfl
noncomputable def arena_Arena_Right (a0:arena_Span) (a1:List UInt8):Option Bool:=
 bnd (if a0.fAt≥0 then
 if a0.fN≥0 then
 if a0.fAt≤(a1.length:Int) then
 some (decide (a0.fN≤(w64 ((a1.length:Int)-a0.fAt))))
else
 some false
else
 some false
else
 some false:Option Bool) fun t1=>
 some t1
theorem arena_Arena_Right_c {a0:arena_Span} {a1:List UInt8} {b0:Nat} {v1:Value} {res:Bool} (h0:arena_Arena_Right a0 a1=some res):CallF X 261 [dP b0,.agg [dN a0.fAt,dN a0.fN]] [.var b0 [.val v1] 264,.row v1 (lB a1) 1 5] (fun x=>(dT res)) (fun x=>[.var b0 [.val v1] 264,.row v1 (lB a1) 1 5]):=by
 unfold arena_Arena_Right at h0;refine CallF.mkG (X:=X) rfl Tryz.func261 rfl rfl Tryz.ntmps261 rfl rfl ?_;refine aS ?_;refine TL.op1 (OpR.boxImm rfl rfl) rfl ?_;refine aA rfl rfl ?_;refine aN rfl ?_;refine T.seq ?_;refine aS ?_;refine aA rfl rfl ?_;refine TL.op1 (OpR.ptrNil (A:=some ⟨b0,0,none⟩) rfl rfl rfl) rfl ?_;refine aN rfl ?_;refine T.condF rfl rfl ?_;refine aK rfl ?_;refine T.seq ?_;obtain⟨t1,ht1,h0⟩:=bS h0;refine T.cutC (fun S'=>S'=⟨[(4,(dT t1))],[.var b0 [.val v1] 264,.row v1 (lB a1) 1 5],38⟩) (fun _ h=>h) ?_ ?_;rotate_left
 ·rintro _ rfl;show T X _ _ _;refine T.ret ?_;obtain rfl:=osi h0;exact rO [0,1] [4] rfl undef (cT rfl ResL.nil) rfl rfl rfl rfl
 rcases ite_some ht1 with ⟨c3,ht1⟩|⟨c3,ht1⟩;rotate_left
 ·refine T.drawQ drawsX [.nod [dN a0.fAt,dN a0.fN],dN a0.fAt,dT (decide (a0.fAt≥0)),dT (decide (a0.fAt≥0)),.tup [],.tup [],.tup [],dT false,dT false,.tup [],.tup [],.tup [],.tup [],.tup [],.tup [],.tup [],.tup [],dT false,dT false,.tup [],.tup [],.tup [],.tup [],.tup [],.tup [],.tup [],.tup [],.tup [],.tup [],.tup [],dT false,dT false] [4] (by decide +kernel) rfl ?_ rfl ?_;rotate_left
  ·obtain rfl:=osi ht1;exact⟨_,Gst.only [4] rfl,rfl⟩
  iterate 4 refine aB rfl rfl rfl ?_
  refine OpsQ.no (Want.bool rfl rfl rfl rfl (by rw[(eF c3)]; rfl)) rfl ?_;refine OpsQ.no (Want.bool rfl rfl rfl rfl (by rw[(eF c3)]; rfl)) rfl ?_;refine OpsQ.no (Want.bool rfl rfl rfl rfl (by rw[(eF c3)]; rfl)) rfl ?_;refine OpsQ.yes (Want.plain rfl) rfl (OpR.pickF rfl (eF c3) rfl) ?_;refine aB rfl rfl rfl ?_;refine OpsQ.no (Want.bool rfl rfl rfl rfl rfl) rfl ?_;refine OpsQ.no (Want.bool rfl rfl rfl rfl rfl) rfl ?_;refine OpsQ.no (Want.bool rfl rfl rfl rfl rfl) rfl ?_;refine OpsQ.no (Want.bool rfl rfl rfl rfl rfl) rfl ?_;refine OpsQ.no (Want.bool rfl rfl rfl rfl rfl) rfl ?_;refine OpsQ.no (Want.bool rfl rfl rfl rfl rfl) rfl ?_;refine OpsQ.no (Want.bool rfl rfl rfl rfl rfl) rfl ?_;refine OpsQ.no (Want.bool rfl rfl rfl rfl rfl) rfl ?_;refine OpsQ.yes (Want.plain rfl) rfl (OpR.pickF rfl rfl rfl) ?_;refine aB rfl rfl rfl ?_;refine OpsQ.no (Want.bool rfl rfl rfl rfl rfl) rfl ?_;refine OpsQ.no (Want.bool rfl rfl rfl rfl rfl) rfl ?_;refine OpsQ.no (Want.bool rfl rfl rfl rfl rfl) rfl ?_;refine OpsQ.no (Want.bool rfl rfl rfl rfl rfl) rfl ?_;refine OpsQ.no (Want.bool rfl rfl rfl rfl rfl) rfl ?_;refine OpsQ.no (Want.bool rfl rfl rfl rfl rfl) rfl ?_;refine OpsQ.no (Want.bool rfl rfl rfl rfl rfl) rfl ?_;refine OpsQ.no (Want.bool rfl rfl rfl rfl rfl) rfl ?_;refine OpsQ.no (Want.bool rfl rfl rfl rfl rfl) rfl ?_;refine OpsQ.no (Want.bool rfl rfl rfl rfl rfl) rfl ?_;refine OpsQ.no (Want.bool rfl rfl rfl rfl rfl) rfl ?_;refine OpsQ.yes (Want.plain rfl) rfl (OpR.pickF rfl rfl rfl) ?_;refine aB rfl rfl rfl ?_;exact OpsQ.nil
 rcases ite_some ht1 with ⟨c4,ht1⟩|⟨c4,ht1⟩;rotate_left
 ·refine T.drawQ drawsX [.nod [dN a0.fAt,dN a0.fN],dN a0.fAt,dT (decide (a0.fAt≥0)),dT (decide (a0.fAt≥0)),.nod [dN a0.fN],dN a0.fN,dT (decide (a0.fN≥0)),dT (decide (a0.fN≥0)),dT (decide (a0.fN≥0)),.tup [],.tup [],.tup [],.tup [],.tup [],.tup [],.tup [],.tup [],dT false,dT false,.tup [],.tup [],.tup [],.tup [],.tup [],.tup [],.tup [],.tup [],.tup [],.tup [],.tup [],dT false,dT false] [4] (by decide +kernel) rfl ?_ rfl ?_;rotate_left
  ·obtain rfl:=osi ht1;exact⟨_,Gst.only [4] rfl,rfl⟩
  iterate 4 refine aB rfl rfl rfl ?_
  refine OpsQ.yes (Want.bool rfl rfl rfl rfl (by rw[(eT c3)]; rfl)) rfl (OpR.pure rfl) ?_;refine OpsQ.yes (Want.bool rfl rfl rfl rfl (by rw[(eT c3)]; rfl)) rfl (OpR.pure rfl) ?_;refine OpsQ.yes (Want.bool rfl rfl rfl rfl (by rw[(eT c3)]; rfl)) rfl (OpR.pure rfl) ?_;refine OpsQ.yes (Want.plain rfl) rfl (OpR.pickT rfl (eT c3) rfl) ?_;refine aB rfl rfl rfl ?_;refine OpsQ.no (Want.bool rfl rfl rfl rfl (by rw[(eF c4)]; rfl)) rfl ?_;refine OpsQ.no (Want.bool rfl rfl rfl rfl (by rw[(eF c4)]; rfl)) rfl ?_;refine OpsQ.no (Want.bool rfl rfl rfl rfl (by rw[(eF c4)]; rfl)) rfl ?_;refine OpsQ.no (Want.bool rfl rfl rfl rfl (by rw[(eF c4)]; rfl)) rfl ?_;refine OpsQ.no (Want.bool rfl rfl rfl rfl (by rw[(eF c4)]; rfl)) rfl ?_;refine OpsQ.no (Want.bool rfl rfl rfl rfl (by rw[(eF c4)]; rfl)) rfl ?_;refine OpsQ.no (Want.bool rfl rfl rfl rfl (by rw[(eF c4)]; rfl)) rfl ?_;refine OpsQ.no (Want.bool rfl rfl rfl rfl (by rw[(eF c4)]; rfl)) rfl ?_;refine OpsQ.yes (Want.plain rfl) rfl (OpR.pickF rfl (eF c4) rfl) ?_;refine aB rfl rfl rfl ?_;refine OpsQ.no (Want.bool rfl rfl rfl rfl rfl) rfl ?_;refine OpsQ.no (Want.bool rfl rfl rfl rfl rfl) rfl ?_;refine OpsQ.no (Want.bool rfl rfl rfl rfl rfl) rfl ?_;refine OpsQ.no (Want.bool rfl rfl rfl rfl rfl) rfl ?_;refine OpsQ.no (Want.bool rfl rfl rfl rfl rfl) rfl ?_;refine OpsQ.no (Want.bool rfl rfl rfl rfl rfl) rfl ?_;refine OpsQ.no (Want.bool rfl rfl rfl rfl rfl) rfl ?_;refine OpsQ.no (Want.bool rfl rfl rfl rfl rfl) rfl ?_;refine OpsQ.no (Want.bool rfl rfl rfl rfl rfl) rfl ?_;refine OpsQ.no (Want.bool rfl rfl rfl rfl rfl) rfl ?_;refine OpsQ.no (Want.bool rfl rfl rfl rfl rfl) rfl ?_;refine OpsQ.yes (Want.plain rfl) rfl (OpR.pickF rfl rfl rfl) ?_;refine aB rfl rfl rfl ?_;exact OpsQ.nil
 rcases ite_some ht1 with ⟨c5,ht1⟩|⟨c5,ht1⟩;rotate_left
 ·refine T.drawQ drawsX [.nod [dN a0.fAt,dN a0.fN],dN a0.fAt,dT (decide (a0.fAt≥0)),dT (decide (a0.fAt≥0)),.nod [dN a0.fN],dN a0.fN,dT (decide (a0.fN≥0)),dT (decide (a0.fN≥0)),dT (decide (a0.fN≥0)),.nod [dN a0.fAt,dN a0.fN],dN a0.fAt,dP b0,dP b0,dP b0,.val v1,dN (a1.length:Int),dT (decide (a0.fAt≤(a1.length:Int))),dT (decide (a0.fAt≤(a1.length:Int))),dT (decide (a0.fAt≤(a1.length:Int))),.tup [],.tup [],.tup [],.tup [],.tup [],.tup [],.tup [],.tup [],.tup [],.tup [],.tup [],dT false,dT false] [4] (by decide +kernel) rfl ?_ rfl ?_;rotate_left
  ·obtain rfl:=osi ht1;exact⟨_,Gst.only [4] rfl,rfl⟩
  iterate 4 refine aB rfl rfl rfl ?_
  refine OpsQ.yes (Want.bool rfl rfl rfl rfl (by rw[(eT c3)]; rfl)) rfl (OpR.pure rfl) ?_;refine OpsQ.yes (Want.bool rfl rfl rfl rfl (by rw[(eT c3)]; rfl)) rfl (OpR.pure rfl) ?_;refine OpsQ.yes (Want.bool rfl rfl rfl rfl (by rw[(eT c3)]; rfl)) rfl (OpR.pure rfl) ?_;refine OpsQ.yes (Want.plain rfl) rfl (OpR.pickT rfl (eT c3) rfl) ?_;refine aB rfl rfl rfl ?_;refine OpsQ.yes (Want.bool rfl rfl rfl rfl (by rw[(eT c4)]; rfl)) rfl (OpR.pure rfl) ?_;refine OpsQ.yes (Want.bool rfl rfl rfl rfl (by rw[(eT c4)]; rfl)) rfl (OpR.pure rfl) ?_;refine OpsQ.yes (Want.bool rfl rfl rfl rfl (by rw[(eT c4)]; rfl)) rfl (OpR.pure rfl) ?_;refine OpsQ.yes (Want.bool rfl rfl rfl rfl (by rw[(eT c4)]; rfl)) rfl (OpR.pure rfl) ?_;refine OpsQ.yes (Want.bool rfl rfl rfl rfl (by rw[(eT c4)]; rfl)) rfl (OpR.pure rfl) ?_;refine OpsQ.yes (Want.bool rfl rfl rfl rfl (by rw[(eT c4)]; rfl)) rfl (OpR.loadPtr 0 rfl rfl rfl rfl) ?_;refine OpsQ.yes (Want.bool rfl rfl rfl rfl (by rw[(eT c4)]; rfl)) rfl (OpR.rowLenM byteD 1 rfl rfl rfl rfl) ?_;refine OpsQ.yes (Want.bool rfl rfl rfl rfl (by rw[(eT c4)]; rfl)) rfl (OpR.pure rfl) ?_;refine OpsQ.yes (Want.plain rfl) rfl (OpR.pickT rfl (eT c4) rfl) ?_;refine aB rfl rfl rfl ?_;refine OpsQ.no (Want.bool rfl rfl rfl rfl (by rw[(eF c5)]; rfl)) rfl ?_;refine OpsQ.no (Want.bool rfl rfl rfl rfl (by rw[(eF c5)]; rfl)) rfl ?_;refine OpsQ.no (Want.bool rfl rfl rfl rfl (by rw[(eF c5)]; rfl)) rfl ?_;refine OpsQ.no (Want.bool rfl rfl rfl rfl (by rw[(eF c5)]; rfl)) rfl ?_;refine OpsQ.no (Want.bool rfl rfl rfl rfl (by rw[(eF c5)]; rfl)) rfl ?_;refine OpsQ.no (Want.bool rfl rfl rfl rfl (by rw[(eF c5)]; rfl)) rfl ?_;refine OpsQ.no (Want.bool rfl rfl rfl rfl (by rw[(eF c5)]; rfl)) rfl ?_;refine OpsQ.no (Want.bool rfl rfl rfl rfl (by rw[(eF c5)]; rfl)) rfl ?_;refine OpsQ.no (Want.bool rfl rfl rfl rfl (by rw[(eF c5)]; rfl)) rfl ?_;refine OpsQ.no (Want.bool rfl rfl rfl rfl (by rw[(eF c5)]; rfl)) rfl ?_;refine OpsQ.no (Want.bool rfl rfl rfl rfl (by rw[(eF c5)]; rfl)) rfl ?_;refine OpsQ.yes (Want.plain rfl) rfl (OpR.pickF rfl (eF c5) rfl) ?_;refine aB rfl rfl rfl ?_;exact OpsQ.nil
 refine T.drawQ drawsX [.nod [dN a0.fAt,dN a0.fN],dN a0.fAt,dT (decide (a0.fAt≥0)),dT (decide (a0.fAt≥0)),.nod [dN a0.fN],dN a0.fN,dT (decide (a0.fN≥0)),dT (decide (a0.fN≥0)),dT (decide (a0.fN≥0)),.nod [dN a0.fAt,dN a0.fN],dN a0.fAt,dP b0,dP b0,dP b0,.val v1,dN (a1.length:Int),dT (decide (a0.fAt≤(a1.length:Int))),dT (decide (a0.fAt≤(a1.length:Int))),dT (decide (a0.fAt≤(a1.length:Int))),.nod [dN a0.fN],dN a0.fN,dP b0,dP b0,dP b0,.val v1,dN (a1.length:Int),.nod [dN a0.fAt,dN a0.fN],dN a0.fAt,dN (w64 ((a1.length:Int)-a0.fAt)),dT (decide (a0.fN≤(w64 ((a1.length:Int)-a0.fAt)))),dT (decide (a0.fN≤(w64 ((a1.length:Int)-a0.fAt)))),dT (decide (a0.fN≤(w64 ((a1.length:Int)-a0.fAt))))] [4] (by decide +kernel) rfl ?_ rfl ?_;rotate_left
 ·obtain rfl:=osi ht1;exact⟨_,Gst.only [4] rfl,rfl⟩
 iterate 4 refine aB rfl rfl rfl ?_
 refine OpsQ.yes (Want.bool rfl rfl rfl rfl (by rw[(eT c3)]; rfl)) rfl (OpR.pure rfl) ?_;refine OpsQ.yes (Want.bool rfl rfl rfl rfl (by rw[(eT c3)]; rfl)) rfl (OpR.pure rfl) ?_;refine OpsQ.yes (Want.bool rfl rfl rfl rfl (by rw[(eT c3)]; rfl)) rfl (OpR.pure rfl) ?_;refine OpsQ.yes (Want.plain rfl) rfl (OpR.pickT rfl (eT c3) rfl) ?_;refine aB rfl rfl rfl ?_;refine OpsQ.yes (Want.bool rfl rfl rfl rfl (by rw[(eT c4)]; rfl)) rfl (OpR.pure rfl) ?_;refine OpsQ.yes (Want.bool rfl rfl rfl rfl (by rw[(eT c4)]; rfl)) rfl (OpR.pure rfl) ?_;refine OpsQ.yes (Want.bool rfl rfl rfl rfl (by rw[(eT c4)]; rfl)) rfl (OpR.pure rfl) ?_;refine OpsQ.yes (Want.bool rfl rfl rfl rfl (by rw[(eT c4)]; rfl)) rfl (OpR.pure rfl) ?_;refine OpsQ.yes (Want.bool rfl rfl rfl rfl (by rw[(eT c4)]; rfl)) rfl (OpR.pure rfl) ?_;refine OpsQ.yes (Want.bool rfl rfl rfl rfl (by rw[(eT c4)]; rfl)) rfl (OpR.loadPtr 0 rfl rfl rfl rfl) ?_;refine OpsQ.yes (Want.bool rfl rfl rfl rfl (by rw[(eT c4)]; rfl)) rfl (OpR.rowLenM byteD 1 rfl rfl rfl rfl) ?_;refine OpsQ.yes (Want.bool rfl rfl rfl rfl (by rw[(eT c4)]; rfl)) rfl (OpR.pure rfl) ?_;refine OpsQ.yes (Want.plain rfl) rfl (OpR.pickT rfl (eT c4) rfl) ?_;refine aB rfl rfl rfl ?_;refine OpsQ.yes (Want.bool rfl rfl rfl rfl (by rw[(eT c5)]; rfl)) rfl (OpR.pure rfl) ?_;refine OpsQ.yes (Want.bool rfl rfl rfl rfl (by rw[(eT c5)]; rfl)) rfl (OpR.pure rfl) ?_;refine OpsQ.yes (Want.bool rfl rfl rfl rfl (by rw[(eT c5)]; rfl)) rfl (OpR.pure rfl) ?_;refine OpsQ.yes (Want.bool rfl rfl rfl rfl (by rw[(eT c5)]; rfl)) rfl (OpR.pure rfl) ?_;refine OpsQ.yes (Want.bool rfl rfl rfl rfl (by rw[(eT c5)]; rfl)) rfl (OpR.pure rfl) ?_;refine OpsQ.yes (Want.bool rfl rfl rfl rfl (by rw[(eT c5)]; rfl)) rfl (OpR.loadPtr 0 rfl rfl rfl rfl) ?_;refine OpsQ.yes (Want.bool rfl rfl rfl rfl (by rw[(eT c5)]; rfl)) rfl (OpR.rowLenM byteD 1 rfl rfl rfl rfl) ?_;refine OpsQ.yes (Want.bool rfl rfl rfl rfl (by rw[(eT c5)]; rfl)) rfl (OpR.pure rfl) ?_;refine OpsQ.yes (Want.bool rfl rfl rfl rfl (by rw[(eT c5)]; rfl)) rfl (OpR.pure rfl) ?_;refine OpsQ.yes (Want.bool rfl rfl rfl rfl (by rw[(eT c5)]; rfl)) rfl (OpR.pure rfl) ?_;refine OpsQ.yes (Want.bool rfl rfl rfl rfl (by rw[(eT c5)]; rfl)) rfl (OpR.pure rfl) ?_;refine OpsQ.yes (Want.plain rfl) rfl (OpR.pickT rfl (eT c5) rfl) ?_;refine aB rfl rfl rfl ?_;exact OpsQ.nil
noncomputable def arena_Arena_part (a0:arena_Span) (a1:List UInt8):Option ((Int × Int) ⊕ (List UInt8)):=
 bnd (arena_Arena_Right a0 a1) fun x1=>
 if x1=true then
 bnd (cut a1 a0.fAt (w64 (a0.fAt+a0.fN))) fun x4=>
 some (Sum.inl (a0.fAt,w64 (a0.fAt+a0.fN)))
else
 some (Sum.inr [])
theorem arena_Arena_part_c {a0:arena_Span} {a1:List UInt8} {b0:Nat} {v1:Value} {res:(Int × Int) ⊕ (List UInt8)} (h0:arena_Arena_part a0 a1=some res):CallF X 231 [dP b0,.agg [dN a0.fAt,dN a0.fN]] [.var b0 [.val v1] 264,.row v1 (lB a1) 1 5] (fun x=>(match res with | .inl res=>.val (vw v1 (res.1:Int).toNat (res.2:Int).toNat 1) | .inr res=>.sl 1 (lB res))) (fun x=>(match res with | .inl res=>[.var b0 [.val v1] 264,.row v1 (lB a1) 1 5] | .inr res=>[.var b0 [.val v1] 264,.row v1 (lB a1) 1 5])):=by
 unfold arena_Arena_part at h0;refine CallF.mkG (X:=X) rfl Tryz.func231 rfl rfl Tryz.ntmps231 rfl rfl ?_;refine aS ?_;refine TL.op1 (OpR.boxImm rfl rfl) rfl ?_;refine aA rfl rfl ?_;refine aN rfl ?_;refine T.seq ?_;refine aS ?_;iterate 2 refine aA rfl rfl ?_
 obtain⟨x1,hx1,h0⟩:=bS h0;refine TL.op1 (OpR.call [0,1] fn261 (arena_Arena_Right_c hx1) rfl rfl rfl (fun _=>rfl)) rfl ?_;refine aA rfl rfl ?_;refine aN rfl ?_;rcases ite_some h0 with ⟨c2,h0⟩|⟨c2,h0⟩;rotate_left
 ·refine T.condT rfl (not_f (eq_false_of_ne_true c2)) ?_;refine aS ?_;refine aA rfl rfl ?_;refine aN rfl ?_;refine T.ret ?_;obtain rfl:=osi h0;exact PostG.retP (ks:=[0,1]) (Gst.trans (Gst.only [4] rfl) (Gst.denil (ReS.cons (Re.base .nil) ReS.nil) (ReO.var (ReL.cons Re.refl ReL.nil) (ReO.same ReO.nil)))) undef (cT rfl ResL.nil) rfl rfl rfl rfl
 refine T.condF rfl (not_t (c2)) ?_;refine aK rfl ?_;refine T.seq ?_;obtain⟨x4,hx4,h0⟩:=bS h0;refine T.drawQ drawsX [dP b0,dP b0,dP b0,.val v1,.nod [dN a0.fAt,dN a0.fN],dN a0.fAt,.nod [dN a0.fAt,dN a0.fN],dN a0.fAt,.nod [dN a0.fN],dN a0.fN,dN (w64 (a0.fAt+a0.fN)),.val (vw v1 (a0.fAt:Int).toNat (w64 (a0.fAt+a0.fN):Int).toNat 1),.val (vw v1 (a0.fAt:Int).toNat (w64 (a0.fAt+a0.fN):Int).toNat 1)] [4] (by decide +kernel) rfl ?_ rfl ?_;rotate_left
 ·show T X _ _ _;refine T.ret ?_;obtain rfl:=osi h0;exact rO [0,1] [4] rfl undef (cT rfl ResL.nil) rfl rfl rfl rfl
 iterate 3 refine aB rfl rfl rfl ?_
 refine OpsQ.yes (Want.plain rfl) rfl (OpR.loadPtr 0 rfl rfl rfl rfl) ?_;iterate 7 refine aB rfl rfl rfl ?_
 refine OpsQ.yes (Want.plain rfl) rfl (OpR.sliceRowM byteD 1 hx4 rfl rfl rfl rfl rfl rfl (BdM.some rfl) (BdM.some rfl)) ?_;refine aB rfl rfl rfl ?_;exact OpsQ.nil
theorem arena_Arena_part_cx1 {a0:arena_Span} {a1:List UInt8} {b0:Nat} {v1:Value} {res:Int × Int} (h0:arena_Arena_part a0 a1=some (Sum.inl res)):CallF X 231 [dP b0,.agg [dN a0.fAt,dN a0.fN]] [.var b0 [.val v1] 264,.row v1 (lB a1) 1 5] (fun x=>.val (vw v1 (res.1:Int).toNat (res.2:Int).toNat 1)) (fun x=>[.var b0 [.val v1] 264,.row v1 (lB a1) 1 5]):=arena_Arena_part_c h0
theorem arena_Arena_part_cx2 {a0:arena_Span} {a1:List UInt8} {b0:Nat} {v1:Value} {res:(List UInt8)} (h0:arena_Arena_part a0 a1=some (Sum.inr res)):CallF X 231 [dP b0,.agg [dN a0.fAt,dN a0.fN]] [.var b0 [.val v1] 264,.row v1 (lB a1) 1 5] (fun x=>.sl 1 (lB res)) (fun x=>[.var b0 [.val v1] 264,.row v1 (lB a1) 1 5]):=arena_Arena_part_c h0
noncomputable def arena_Arena_Bytes (a0:arena_Span) (a1:List UInt8):Option (List UInt8):=
 bnd (arena_Arena_part a0 a1) fun x1=>
 match x1 with
| .inl x1=>
 bnd (cut a1 x1.1 x1.2) fun x2=>
 bnd (mkz 1 (x2.length:Int) (0:UInt8)) fun x3=>
 some (over x3 x2)
| .inr x1=>
 bnd (mkz 1 (x1.length:Int) (0:UInt8)) fun x5=>
 some (over x5 x1)
theorem arena_Arena_Bytes_c {a0:arena_Span} {a1:List UInt8} {b0:Nat} {v1:Value} {res:(List UInt8)} (h0:arena_Arena_Bytes a0 a1=some res):CallF X 201 [dP b0,.agg [dN a0.fAt,dN a0.fN]] [.var b0 [.val v1] 264,.row v1 (lB a1) 1 5] (fun x=>.sl 1 (lB res)) (fun x=>[.var b0 [.val v1] 264,.row v1 (lB a1) 1 5]):=by
 unfold arena_Arena_Bytes at h0;refine CallF.mkG (X:=X) rfl Tryz.func201 rfl rfl Tryz.ntmps201 rfl rfl ?_;refine aS ?_;refine TL.op1 (OpR.boxImm rfl rfl) rfl ?_;refine aA rfl rfl ?_;refine aN rfl ?_;refine aS ?_;iterate 2 refine aA rfl rfl ?_
 obtain⟨x1,hx1,h0⟩:=bS h0;rcases x1 with x1|x1;rotate_left
 ·dsimp only at h0;refine TL.op1 (OpR.call [0,1] fn231 (arena_Arena_part_cx2 hx1) rfl rfl rfl (fun _=>rfl)) rfl ?_;refine aA rfl rfl ?_;refine aN rfl ?_;refine aS ?_;refine aA rfl rfl ?_;refine TL.op1 (OpR.cast (OpR.pure rfl) (intE (lenM _ _))) rfl ?_;obtain⟨x5,hx5,h0⟩:=bS h0;refine TL.op (OpR.makeM byteD hx5 rfl rfl rfl rfl rfl rfl rfl rfl rfl rfl rfl (fun _=>rfl)) rfl (fun v6=>?_);refine aA rfl rfl ?_;refine aN rfl ?_;refine aS ?_;iterate 2 refine aA rfl rfl ?_
  refine TL.op1 (OpR.copyM byteD 2 rfl rfl rfl rfl rfl rfl rfl rfl) rfl ?_;refine aN rfl ?_;refine aS ?_;iterate 2 refine aA rfl rfl ?_
  refine aN rfl ?_;refine T.ret ?_;obtain rfl:=osi h0;exact PostG.retP (ks:=[0,1]) (Gst.trans (Gst.only [4] rfl) (Gst.trans (Gst.freezeRow 2 rfl rfl (ReS.cons (Re.base .all) ReS.nil) (ReO.same (ReO.same (ReO.same ReO.nil)))) (Gst.pick [0,1] rfl rfl))) undef (cT rfl ResL.nil) rfl rfl rfl rfl
 dsimp only at h0;refine TL.op1 (OpR.call [0,1] fn231 (arena_Arena_part_cx1 hx1) rfl rfl rfl (fun _=>rfl)) rfl ?_;refine aA rfl rfl ?_;refine aN rfl ?_;refine aS ?_;refine aA rfl rfl ?_;obtain⟨x2,hx2,h0⟩:=bS h0;refine TL.op1 (OpR.lenF byteD (Src.viewM byteD 1 hx2 rfl rfl) rfl rfl) rfl ?_;obtain⟨x3,hx3,h0⟩:=bS h0;refine TL.op (OpR.makeM byteD hx3 rfl rfl rfl rfl rfl rfl rfl rfl rfl rfl rfl (fun _=>rfl)) rfl (fun v4=>?_);refine aA rfl rfl ?_;refine aN rfl ?_;refine aS ?_;iterate 2 refine aA rfl rfl ?_
 refine TL.op1 (OpR.copyF byteD 2 (Src.viewM byteD 1 hx2 rfl rfl) rfl rfl rfl rfl rfl rfl rfl) rfl ?_;refine aN rfl ?_;refine aS ?_;iterate 2 refine aA rfl rfl ?_
 refine aN rfl ?_;refine T.ret ?_;obtain rfl:=osi h0;exact PostG.retP (ks:=[0,1]) (Gst.trans (Gst.only [4] rfl) (Gst.trans (Gst.freezeRow 2 rfl rfl (ReS.cons (Re.base .all) ReS.nil) (ReO.same (ReO.same (ReO.same ReO.nil)))) (Gst.pick [0,1] rfl rfl))) undef (cT rfl ResL.nil) rfl rfl rfl rfl
noncomputable def piece_Text_Flat.l1 (a0:piece_Text) (a1:List UInt8) (s4:Int × (List UInt8)):Option (Lp (Int × (List UInt8)) (List UInt8)):=
 if s4.1<(a0.fL.length:Int) then
 bnd (idx a0.fL s4.1) fun x13=>
 bnd (arena_Arena_Bytes x13 a1) fun x15=>
 bnd (app 1 s4.2 x15) fun x16=>
 some (Lp.next (w64 (s4.1+1),x16))
else
 some (Lp.done s4.2)
noncomputable def piece_Text_Flat (a0:piece_Text) (a1:List UInt8):Option (List UInt8):=
 bnd (loop (piece_Text_Flat.l1 a0 a1) (0,[]):Option (List UInt8)) fun t1=>
 some t1
theorem piece_Text_Flat_c {a0:piece_Text} {a1:List UInt8} {b0:Nat} {v1:Value} {res:(List UInt8)} (h0:piece_Text_Flat a0 a1=some res):CallF X 183 [.agg [.sl 2 (List.map e_arena_Span a0.fL),dN a0.fN],dP b0] [.var b0 [.val v1] 264,.row v1 (lB a1) 1 5] (fun x=>.sl 1 (lB res)) (fun x=>[.var b0 [.val v1] 264,.row v1 (lB a1) 1 5]):=by
 unfold piece_Text_Flat at h0;refine CallF.mkG (X:=X) rfl Tryz.func183 rfl rfl Tryz.ntmps183 rfl rfl ?_;refine aS ?_;refine TL.op1 (OpR.boxImm rfl rfl) rfl ?_;refine aA rfl rfl ?_;refine aN rfl ?_;refine aS ?_;refine aA rfl rfl ?_;refine aN rfl ?_;refine T.seq ?_;refine aS ?_;iterate 2 refine aA rfl rfl ?_
 refine TL.op1 (OpR.cast (OpR.pure rfl) (intE (lenM _ _))) rfl ?_;refine aA rfl rfl ?_;refine aN rfl ?_;obtain⟨t1,ht1,h0⟩:=bS h0;refine T.cutC (fun S'=>∃ y2:Value,S'=⟨[(5,.val y2),(4,.val (.slice none 0 0))],[.var b0 [.val v1] 264,.row v1 (lB a1) 1 5,.row y2 (lB t1) 1 5],22⟩) (fun _ h=>h) ?_ ?_;rotate_left
 ·rintro _ ⟨y2,rfl⟩;show T X _ _ _;refine aS ?_;iterate 2 refine aA rfl rfl ?_
  refine aN rfl ?_;refine T.ret ?_;obtain rfl:=osi h0;exact PostG.retP (ks:=[0,1]) (Gst.trans (Gst.only [4] rfl) (Gst.trans (Gst.freezeRow 2 rfl rfl (ReS.cons (Re.base .all) ReS.nil) (ReO.same (ReO.same (ReO.same ReO.nil)))) (Gst.pick [0,1] rfl rfl))) undef (cT rfl ResL.nil) rfl rfl rfl rfl
 refine T.block ?_;obtain⟨n5,n10⟩:=loop_some ht1;refine T.loop (fun n S'=>∃ S'',Gst S' S''∧∃ y3:Value,∃ s4:Int × (List UInt8),S''=⟨[(11,(dN s4.1)),(10,(dN (a0.fL.length:Int))),(9,.sl 2 (List.map e_arena_Span a0.fL)),(5,.val y3),(4,.val (.slice none 0 0)),(1,(dP b0))],[.var b0 [.val v1] 264,.row v1 (lB a1) 1 5,.row y3 (lB s4.2) 1 5],22⟩∧iter (piece_Text_Flat.l1 a0 a1) n s4=some t1) n5 ?_ ?_
 ·exact⟨_,Gst.trans (Gst.only [1,4,5,9,10,11] rfl) (Gst.nilRow (ow:=[.var b0 [.val v1] 264,.row v1 (lB a1) 1 5]) 1 5 rfl),(.slice none 0 0),(0,[]),rfl,n10⟩
 rintro n5 _ ⟨_,g,y3,s4,rfl,i9⟩;refine T.ghost g ?_;obtain⟨m6,q7,rfl,q8,i9⟩:=iter_succ i9;unfold piece_Text_Flat.l1 at q8;refine aS ?_;refine aA rfl rfl ?_;refine aN rfl ?_;refine T.seq ?_;rcases ite_some q8 with ⟨c12,q8⟩|⟨c12,q8⟩;rotate_left
 ·refine T.condF rfl (eF c12) ?_;refine T.exit ?_;obtain rfl:=osi q8;obtain rfl:_=_:=i9;exact⟨_,Gst.only [4,5] rfl,y3,rfl⟩
 refine T.condT rfl (eT c12) ?_;refine aK rfl ?_;refine T.seq ?_;refine T.block ?_;refine aS ?_;obtain⟨x13,hx13,q8⟩:=bS q8;refine TL.op1 (OpR.indexM e_arena_Span hx13 rfl rfl rfl rfl rfl) rfl ?_;refine aA rfl rfl ?_;refine TL.op (OpR.alloc rfl rfl (fun _=>rfl)) rfl (fun p14=>?_);refine TL.op0 (OpR.store 3 rfl rfl rfl rfl rfl rfl rfl rfl) ?_;refine aN rfl ?_;refine T.region ?_;iterate 2 refine aA rfl rfl ?_
 refine TL.op1 (OpR.loadPtr 3 rfl rfl rfl rfl) rfl ?_;obtain⟨x15,hx15,q8⟩:=bS q8;refine TL.op1 (OpR.call [0,1] fn201 (arena_Arena_Bytes_c hx15) rfl rfl rfl (fun _=>rfl)) rfl ?_;obtain⟨x16,hx16,q8⟩:=bS q8;refine TL.op (OpR.appendM (m:=x15) byteD 2 hx16 rfl rfl rfl rfl rfl rfl rfl rfl rfl (fun _=>rfl)) rfl (fun v17=>?_);refine aA rfl rfl ?_;refine aN rfl ?_;refine T.region ?_;iterate 2 refine aA rfl rfl ?_
 refine TL.nil ?_;obtain rfl:=osi q8;exact⟨m6,Nat.lt_succ_self _,_,gP [1,4,5,9,10,11] [0,1,2] rfl rfl rfl,v17,(w64 (s4.1+1),x16),rfl,i9⟩
noncomputable def cell_Cell_Bytes (a0:cell_Cell) (a1:List UInt8):Option (List UInt8):=
 bnd (piece_Text_Flat a0.fText a1) fun x1=>
 some x1
theorem cell_Cell_Bytes_c {a0:cell_Cell} {a1:List UInt8} {b0:Nat} {v1:Value} {res:(List UInt8)} (h0:cell_Cell_Bytes a0 a1=some res):CallF X 113 [.agg [.sl 2 (List.map e_arena_Span a0.fText.fL),dN a0.fText.fN,dN a0.fRaw.fAt,dN a0.fRaw.fN,dT a0.fKept],dP b0] [.var b0 [.val v1] 264,.row v1 (lB a1) 1 5] (fun x=>.sl 1 (lB res)) (fun x=>[.var b0 [.val v1] 264,.row v1 (lB a1) 1 5]):=by
 unfold cell_Cell_Bytes at h0;refine CallF.mkG (X:=X) rfl Tryz.func113 rfl rfl Tryz.ntmps113 rfl rfl ?_;refine aS ?_;refine TL.op1 (OpR.boxImm rfl rfl) rfl ?_;refine aA rfl rfl ?_;refine aN rfl ?_;refine aS ?_;iterate 3 refine aA rfl rfl ?_
 obtain⟨x1,hx1,h0⟩:=bS h0;refine TL.op1 (OpR.call [0,1] fn183 (piece_Text_Flat_c hx1) rfl rfl rfl (fun _=>rfl)) rfl ?_;refine aA rfl rfl ?_;refine aN rfl ?_;refine T.ret ?_;obtain rfl:=osi h0;exact rO [0,1] [4] rfl undef (cT rfl ResL.nil) rfl rfl rfl rfl
noncomputable def order_text (a0:row_Row) (a1:Int) (a2:List UInt8):Option (List UInt8):=
 bnd (row_Row_At a0 a1) fun x1=>
 bnd (cell_Cell_Bytes x1.1 a2) fun x3=>
 some x3
theorem order_text_c {a0:row_Row} {a1:Int} {a2:List UInt8} {b0:Nat} {v1:Value} {res:(List UInt8)} (h0:order_text a0 a1 a2=some res):CallF X 172 [.agg [.sl 5 (List.map e_cell_Cell a0.fCells),dN a0.fEnd,dT a0.fHidden],dP b0,dN a1] [.var b0 [.val v1] 264,.row v1 (lB a2) 1 5] (fun x=>.sl 1 (lB res)) (fun x=>[.var b0 [.val v1] 264,.row v1 (lB a2) 1 5]):=by
 unfold order_text at h0;refine CallF.mkG (X:=X) rfl Tryz.func172 rfl rfl Tryz.ntmps172 rfl rfl ?_;refine aS ?_;refine TL.op1 (OpR.boxImm rfl rfl) rfl ?_;refine aA rfl rfl ?_;refine aN rfl ?_;refine aS ?_;iterate 2 refine aA rfl rfl ?_
 obtain⟨x1,hx1,h0⟩:=bS h0;refine TL.op1 (OpR.call0 fn111 (row_Row_At_c hx1) rfl) rfl ?_;iterate 3 refine aA rfl rfl ?_
 refine TL.op (OpR.alloc rfl rfl (fun _=>rfl)) rfl (fun p2=>?_);refine TL.op0 (OpR.store 2 rfl rfl rfl rfl rfl rfl rfl rfl) ?_;refine aA rfl rfl ?_;refine aN rfl ?_;refine aS ?_;refine TL.op1 (OpR.loadPtr 2 rfl rfl rfl rfl) rfl ?_;refine aA rfl rfl ?_;obtain⟨x3,hx3,h0⟩:=bS h0;refine TL.op1 (OpR.call [0,1] fn113 (cell_Cell_Bytes_c hx3) rfl rfl rfl (fun _=>rfl)) rfl ?_;refine aA rfl rfl ?_;refine aN rfl ?_;refine T.ret ?_;obtain rfl:=osi h0;exact rP [0,1] [6] [0,1] rfl rfl rfl undef (cT rfl ResL.nil) rfl rfl rfl rfl
noncomputable def num_sign (a0:List UInt8):Option (Bool × (List UInt8)):=
 if (a0.length:Int)=0 then
 some (false,a0)
else
 bnd (idx a0 0) fun x2=>
 if (x2.toNat:Int)=45 then
 bnd (cut a0 1 (a0.length:Int)) fun x5=>
 some (true,x5)
else
 if (x2.toNat:Int)=43 then
 bnd (cut a0 1 (a0.length:Int)) fun x8=>
 some (false,x8)
else
 some (false,a0)
theorem num_sign_c {a0:List UInt8} {res:Bool × (List UInt8)} (h0:num_sign a0=some res):CallF X 237 [.sl 1 (lB a0)] [] (fun x=>.tup [dT res.1,.sl 1 (lB res.2)]) (fun x=>[]):=by
 unfold num_sign at h0;refine CallF.mkG (X:=X) rfl Tryz.func237 rfl rfl Tryz.ntmps237 rfl rfl ?_;refine aS ?_;iterate 2 refine aA rfl rfl ?_
 refine aN rfl ?_;refine T.seq ?_;refine aS ?_;refine aA rfl rfl ?_;refine TL.op1 (OpR.cast (OpR.pure rfl) (intE (lenM _ _))) rfl ?_;refine aA rfl rfl ?_;refine aN rfl ?_;rcases ite_some h0 with ⟨c1,h0⟩|⟨c1,h0⟩
 ·refine T.condT rfl (beq_iff_eq.2 c1) ?_;refine aS ?_;iterate 3 refine aA rfl rfl ?_
  refine aN rfl ?_;refine T.ret ?_;obtain rfl:=osi h0;exact rO [] [2,3] rfl undef (cT rfl (cT rfl ResL.nil)) rfl rfl rfl rfl
 refine T.condF rfl (beq_eq_false_iff_ne.2 c1) ?_;refine aK rfl ?_;refine T.seq ?_;refine aS ?_;refine aA rfl rfl ?_;obtain⟨x2,hx2,h0⟩:=bS h0;refine TL.op1 (OpR.indexM byteD hx2 rfl rfl rfl rfl rfl) rfl ?_;refine aA rfl rfl ?_;refine aN rfl ?_;refine T.block ?_;refine aS ?_;iterate 2 refine aA rfl rfl ?_
 refine aN rfl ?_;rcases ite_some h0 with ⟨c3,h0⟩|⟨c3,h0⟩
 ·refine T.condT rfl (beq_iff_eq.2 c3) ?_;refine T.seq ?_;obtain⟨x5,hx5,h0⟩:=bS h0;refine T.drawQ drawsX [.sl 1 (lB a0),.sl 1 (lB x5),dT true,.sl 1 (lB x5)] [0,2,3] (by decide +kernel) rfl ?_ rfl ?_;rotate_left
  ·show T X _ _ _;refine T.ret ?_;obtain rfl:=osi h0;exact rO [] [2,3] rfl undef (cT rfl (cT rfl ResL.nil)) rfl rfl rfl rfl
  refine aB rfl rfl rfl ?_;refine OpsQ.yes (Want.plain rfl) rfl (OpR.sliceM (sz:=1) byteD hx5 rfl rfl rfl rfl (BdM.some rfl) BdM.none rfl) ?_;iterate 2 refine aB rfl rfl rfl ?_
  exact OpsQ.nil
 refine T.condF rfl (beq_eq_false_iff_ne.2 c3) ?_;refine aS ?_;iterate 2 refine aA rfl rfl ?_
 refine aN rfl ?_;rcases ite_some h0 with ⟨c6,h0⟩|⟨c6,h0⟩;rotate_left
 ·refine T.condF rfl (beq_eq_false_iff_ne.2 c6) ?_;refine aK rfl ?_;refine aS ?_;iterate 3 refine aA rfl rfl ?_
  refine aN rfl ?_;refine T.ret ?_;obtain rfl:=osi h0;exact rO [] [2,3] rfl undef (cT rfl (cT rfl ResL.nil)) rfl rfl rfl rfl
 refine T.condT rfl (beq_iff_eq.2 c6) ?_;refine T.seq ?_;obtain⟨x8,hx8,h0⟩:=bS h0;refine T.drawQ drawsX [.sl 1 (lB a0),.sl 1 (lB x8),dT false,.sl 1 (lB x8)] [0,2,3] (by decide +kernel) rfl ?_ rfl ?_;rotate_left
 ·show T X _ _ _;refine T.ret ?_;obtain rfl:=osi h0;exact rO [] [2,3] rfl undef (cT rfl (cT rfl ResL.nil)) rfl rfl rfl rfl
 refine aB rfl rfl rfl ?_;refine OpsQ.yes (Want.plain rfl) rfl (OpR.sliceM (sz:=1) byteD hx8 rfl rfl rfl rfl (BdM.some rfl) BdM.none rfl) ?_;iterate 2 refine aB rfl rfl rfl ?_
 exact OpsQ.nil
noncomputable def num_digit (a0:UInt8):Option (Int × Bool):=
 bnd (if (a0.toNat:Int)<48 then
 some true
else
 some (decide ((a0.toNat:Int)>57)):Option Bool) fun t1=>
 if t1=true then
 some (0,false)
else
 some (IntKind.wrap .u64 ((ub ((a0.toNat:Int)-48)).toNat:Int),true)
theorem num_digit_c {a0:UInt8} {res:Int × Bool} (h0:num_digit a0=some res):CallF X 165 [.val (.int .u8 (a0.toNat:Int))] [] (fun x=>.tup [.val (.int .u64 res.1),dT res.2]) (fun x=>[]):=by
 unfold num_digit at h0;refine CallF.mkG (X:=X) rfl Tryz.func165 rfl rfl Tryz.ntmps165 rfl rfl ?_;refine aS ?_;iterate 2 refine aA rfl rfl ?_
 refine aN rfl ?_;refine T.seq ?_;refine T.seq ?_;obtain⟨t1,ht1,h0⟩:=bS h0;refine T.cutC (fun S'=>S'=⟨[(9,(dT t1)),(3,(dT false)),(2,.val (.int .u64 0)),(0,.val (.int .u8 (a0.toNat:Int)))],[],13⟩) (fun _ h=>h) ?_ ?_
 ·refine T.region ?_;iterate 3 refine aA rfl rfl ?_
  rcases ite_some ht1 with ⟨c2,ht1⟩|⟨c2,ht1⟩
  ·refine TL.off rfl rfl rfl rfl (eT c2) rfl rfl ?_;refine TL.off rfl rfl rfl rfl (eT c2) rfl rfl ?_;refine TL.op1 (OpR.pickT rfl (eT c2) rfl) rfl ?_;refine TL.nil ?_;obtain rfl:=osi ht1;exact⟨_,Gst.only [0,2,3,9] rfl,rfl⟩
  refine TL.on rfl rfl rfl rfl (eF c2) ?_;refine aA rfl rfl ?_;refine TL.on rfl rfl rfl rfl (eF c2) ?_;refine aA rfl rfl ?_;refine TL.op1 (OpR.pickF rfl (eF c2) rfl) rfl ?_;refine TL.nil ?_;obtain rfl:=osi ht1;exact⟨_,Gst.only [0,2,3,9] rfl,rfl⟩
 rintro _ rfl;show T X _ _ _;rcases ite_some h0 with ⟨c3,h0⟩|⟨c3,h0⟩
 ·refine T.condT rfl (c3) ?_;refine aS ?_;iterate 2 refine aA rfl rfl ?_
  refine aN rfl ?_;refine T.ret ?_;obtain rfl:=osi h0;exact rO [] [2,3] rfl undef (cT rfl (cT rfl ResL.nil)) rfl rfl rfl rfl
 refine T.condF rfl (eq_false_of_ne_true c3) ?_;refine aK rfl ?_;refine aS ?_;refine aA rfl rfl ?_;refine TL.op1 (OpR.cast (OpR.pure rfl) (intE (ub_wrap _))) rfl ?_;iterate 3 refine aA rfl rfl ?_
 refine aN rfl ?_;refine T.ret ?_;obtain rfl:=osi h0;exact rO [] [2,3] rfl undef (cT rfl (cT rfl ResL.nil)) rfl rfl rfl rfl
noncomputable def num_magnitude.l1 (a0:List UInt8) (s3:Int × Int):Option (Lp (Int × Int) (Ex Int (Int × Bool))):=
 if s3.2<(a0.length:Int) then
 bnd (idx a0 s3.2) fun x12=>
 bnd (num_digit x12) fun x13=>
 bnd (if x13.2=true then
 bnd (some (IntKind.wrap .u64 (quo (IntKind.wrap .u64 (9223372036854775808-x13.1)) 9))) fun x16=>
 some (decide (s3.1>x16))
else
 some true:Option Bool) fun t14=>
 if t14=true then
 some (Lp.done (Ex.ret (0,false)))
else
 some (Lp.next (IntKind.wrap .u64 ((IntKind.wrap .u64 (s3.1*10))+x13.1),w64 (s3.2+1)))
else
 some (Lp.done (Ex.brk s3.1))
noncomputable def num_magnitude (a0:List UInt8):Option (Int × Bool):=
 bnd (loop (num_magnitude.l1 a0) (0,0):Option (Ex Int (Int × Bool))) fun t1=>match t1 with
| .brk u2=>
 some (u2,decide ((a0.length:Int)>0))
| .ret u2=>some u2
theorem num_magnitude_c {a0:List UInt8} {res:Int × Bool} (h0:num_magnitude a0=some res):CallF X 238 [.sl 1 (lB a0)] [] (fun x=>.tup [.val (.int .u64 res.1),dT res.2]) (fun x=>[]):=by
 unfold num_magnitude at h0;refine CallF.mkG (X:=X) rfl Tryz.func238 rfl rfl Tryz.ntmps238 rfl rfl ?_;refine aS ?_;iterate 2 refine aA rfl rfl ?_
 refine aN rfl ?_;refine aS ?_;refine aA rfl rfl ?_;refine aN rfl ?_;refine T.seq ?_;refine aS ?_;refine aA rfl rfl ?_;refine TL.op1 (OpR.cast (OpR.pure rfl) (intE (lenM _ _))) rfl ?_;refine aA rfl rfl ?_;refine aN rfl ?_;obtain⟨t1,ht1,h0⟩:=bS h0;refine T.cutC (fun S'=>∃ u2,t1=Ex.brk u2∧S'=⟨[(4,.val (.int .u64 u2)),(3,(dT false)),(2,.val (.int .u64 0)),(0,.sl 1 (lB a0))],[],39⟩) (fun _ h=>h) ?_ ?_;rotate_left
 ·rintro _ ⟨u2,rfl,rfl⟩;show T X _ _ _;refine aS ?_;iterate 2 refine aA rfl rfl ?_
  refine TL.op1 (OpR.cast (OpR.pure rfl) (intE (lenM _ _))) rfl ?_;iterate 3 refine aA rfl rfl ?_
  refine aN rfl ?_;refine T.ret ?_;obtain rfl:=osi h0;exact rO [] [2,3] rfl undef (cT rfl (cT rfl ResL.nil)) rfl rfl rfl rfl
 refine T.block ?_;obtain⟨n4,n9⟩:=loop_some ht1;refine T.loop (fun n S'=>∃ S'',Gst S' S''∧∃ s3:Int × Int,S''=⟨[(10,(dN s3.2)),(9,(dN (a0.length:Int))),(4,.val (.int .u64 s3.1)),(3,(dT false)),(2,.val (.int .u64 0)),(0,.sl 1 (lB a0))],[],39⟩∧iter (num_magnitude.l1 a0) n s3=some t1) n4 ?_ ?_
 ·exact⟨_,Gst.only [0,2,3,4,9,10] rfl,(0,0),rfl,n9⟩
 rintro n4 _ ⟨_,g,s3,rfl,i8⟩;refine T.ghost g ?_;obtain⟨m5,q6,rfl,q7,i8⟩:=iter_succ i8;unfold num_magnitude.l1 at q7;refine aS ?_;refine aA rfl rfl ?_;refine aN rfl ?_;refine T.seq ?_;rcases ite_some q7 with ⟨c11,q7⟩|⟨c11,q7⟩;rotate_left
 ·refine T.condF rfl (eF c11) ?_;refine T.exit ?_;obtain rfl:=osi q7;obtain rfl:_=_:=i8;exact⟨_,Gst.only [0,2,3,4] rfl,_,rfl,rfl⟩
 refine T.condT rfl (eT c11) ?_;refine aK rfl ?_;refine T.seq ?_;refine T.block ?_;refine aS ?_;iterate 2 refine aA rfl rfl ?_
 refine aN rfl ?_;refine aS ?_;iterate 2 refine aA rfl rfl ?_
 obtain⟨x12,hx12,q7⟩:=bS q7;refine TL.op1 (OpR.indexM byteD hx12 rfl rfl rfl rfl rfl) rfl ?_;refine aA rfl rfl ?_;obtain⟨x13,hx13,q7⟩:=bS q7;refine TL.op1 (OpR.call0 fn165 (num_digit_c hx13) rfl) rfl ?_;iterate 5 refine aA rfl rfl ?_
 refine aN rfl ?_;refine T.seq ?_;refine T.seq ?_;obtain⟨t14,ht14,q7⟩:=bS q7;refine T.cutC (fun S'=>S'=⟨[(29,(dT t14)),(10,(dN s3.2)),(9,(dN (a0.length:Int))),(6,.val (.int .u64 x13.1)),(4,.val (.int .u64 s3.1)),(3,(dT false)),(2,.val (.int .u64 0)),(0,.sl 1 (lB a0))],[],39⟩) (fun _ h=>h) ?_ ?_;rotate_left
 ·rintro _ rfl;show T X _ _ _;rcases ite_some q7 with ⟨c17,q7⟩|⟨c17,q7⟩
  ·refine T.condT rfl (c17) ?_;refine aS ?_;iterate 2 refine aA rfl rfl ?_
   refine aN rfl ?_;refine T.ret ?_;obtain rfl:=osi q7;obtain rfl:_=_:=i8;obtain rfl:=osi h0;exact rO [] [2,3] rfl undef (cT rfl (cT rfl ResL.nil)) rfl rfl rfl rfl
  refine T.condF rfl (eq_false_of_ne_true c17) ?_;refine aK rfl ?_;refine T.region ?_;iterate 5 refine aA rfl rfl ?_
  refine aN rfl ?_;refine T.region ?_;iterate 2 refine aA rfl rfl ?_
  refine TL.nil ?_;obtain rfl:=osi q7;exact⟨m5,Nat.lt_succ_self _,_,Gst.only [0,2,3,4,9,10] rfl,(IntKind.wrap .u64 ((IntKind.wrap .u64 (s3.1*10))+x13.1),w64 (s3.2+1)),rfl,i8⟩
 refine T.region ?_;iterate 3 refine aA rfl rfl ?_
 rcases ite_some ht14 with ⟨c15,ht14⟩|⟨c15,ht14⟩;rotate_left
 ·refine TL.off rfl rfl rfl rfl (not_f (eq_false_of_ne_true c15)) rfl rfl ?_;refine TL.off rfl rfl rfl rfl (not_f (eq_false_of_ne_true c15)) rfl rfl ?_;refine TL.off rfl rfl rfl rfl (not_f (eq_false_of_ne_true c15)) rfl rfl ?_;refine TL.off rfl rfl rfl rfl (not_f (eq_false_of_ne_true c15)) rfl rfl ?_;refine TL.off rfl rfl rfl rfl (not_f (eq_false_of_ne_true c15)) rfl rfl ?_;refine TL.op1 (OpR.pickT rfl (not_f (eq_false_of_ne_true c15)) rfl) rfl ?_;refine TL.nil ?_;obtain rfl:=osi ht14;exact⟨_,Gst.only [0,2,3,4,6,9,10,29] rfl,rfl⟩
 refine TL.on rfl rfl rfl rfl (not_t (c15)) ?_;refine aA rfl rfl ?_;refine TL.on rfl rfl rfl rfl (not_t (c15)) ?_;refine aA rfl rfl ?_;refine TL.on rfl rfl rfl rfl (not_t (c15)) ?_;refine aA rfl rfl ?_;refine TL.on rfl rfl rfl rfl (not_t (c15)) ?_;obtain⟨x16,hx16,ht14⟩:=bS ht14;refine TL.op1 (OpR.cast (OpR.pure rfl) (intE (osi hx16))) rfl ?_;refine TL.on rfl rfl rfl rfl (not_t (c15)) ?_;refine aA rfl rfl ?_;refine TL.op1 (OpR.pickF rfl (not_t (c15)) rfl) rfl ?_;refine TL.nil ?_;obtain rfl:=osi ht14;exact⟨_,Gst.only [0,2,3,4,6,9,10,29] rfl,rfl⟩
noncomputable def num_Parse (a0:List UInt8):Option (Int × Bool):=
 bnd (num_sign a0) fun x1=>
 bnd (num_magnitude x1.2) fun x2=>
 bnd (if x2.2=true then
 if x1.1=true then
 some false
else
 some (x2.1==9223372036854775808)
else
 some (!x2.2):Option Bool) fun t3=>
 if t3=true then
 some (0,false)
else
 if x1.1=true then
 some (w64 (IntKind.wrap .u64 (0-x2.1)),true)
else
 some (w64 x2.1,true)
theorem num_Parse_c {a0:List UInt8} {res:Int × Bool} (h0:num_Parse a0=some res):CallF X 212 [.sl 1 (lB a0)] [] (fun x=>.tup [dN res.1,dT res.2]) (fun x=>[]):=by
 unfold num_Parse at h0;refine CallF.mkG (X:=X) rfl Tryz.func212 rfl rfl Tryz.ntmps212 rfl rfl ?_;refine aS ?_;iterate 2 refine aA rfl rfl ?_
 refine aN rfl ?_;refine aS ?_;refine aA rfl rfl ?_;obtain⟨x1,hx1,h0⟩:=bS h0;refine TL.op1 (OpR.call0 fn237 (num_sign_c hx1) rfl) rfl ?_;iterate 5 refine aA rfl rfl ?_
 refine aN rfl ?_;refine aS ?_;refine aA rfl rfl ?_;obtain⟨x2,hx2,h0⟩:=bS h0;refine TL.op1 (OpR.call0 fn238 (num_magnitude_c hx2) rfl) rfl ?_;iterate 5 refine aA rfl rfl ?_
 refine aN rfl ?_;refine T.seq ?_;refine T.block ?_;refine T.seq ?_;refine aS ?_;iterate 3 refine aA rfl rfl ?_
 refine aN rfl ?_;obtain⟨t3,ht3,h0⟩:=bS h0;refine T.cutC (fun S'=>S'=⟨[(18,(dT t3)),(6,.val (.int .u64 x2.1)),(4,(dT x1.1)),(3,(dT false)),(2,(dN 0))],[],34⟩) (fun _ h=>h) ?_ ?_
 ·rcases ite_some ht3 with ⟨c4,ht3⟩|⟨c4,ht3⟩;rotate_left
  ·refine T.condT rfl (not_f (eq_false_of_ne_true c4)) ?_;refine T.skip ?_;obtain rfl:=osi ht3;exact⟨_,Gst.only [2,3,4,6,18] rfl,rfl⟩
  refine T.condF rfl (not_t (c4)) ?_;refine T.region ?_;iterate 3 refine aA rfl rfl ?_
  rcases ite_some ht3 with ⟨c5,ht3⟩|⟨c5,ht3⟩
  ·refine TL.off rfl rfl rfl rfl (not_t (c5)) rfl rfl ?_;refine TL.off rfl rfl rfl rfl (not_t (c5)) rfl rfl ?_;refine TL.op1 (OpR.pickF rfl (not_t (c5)) rfl) rfl ?_;refine aA rfl rfl ?_;refine TL.nil ?_;obtain rfl:=osi ht3;exact⟨_,Gst.only [2,3,4,6,18] rfl,rfl⟩
  refine TL.on rfl rfl rfl rfl (not_f (eq_false_of_ne_true c5)) ?_;refine aA rfl rfl ?_;refine TL.on rfl rfl rfl rfl (not_f (eq_false_of_ne_true c5)) ?_;refine aA rfl rfl ?_;refine TL.op1 (OpR.pickT rfl (not_f (eq_false_of_ne_true c5)) rfl) rfl ?_;refine aA rfl rfl ?_;refine TL.nil ?_;obtain rfl:=osi ht3;exact⟨_,Gst.only [2,3,4,6,18] rfl,rfl⟩
 rintro _ rfl;show T X _ _ _;rcases ite_some h0 with ⟨c6,h0⟩|⟨c6,h0⟩
 ·refine T.condT rfl (c6) ?_;refine aS ?_;iterate 2 refine aA rfl rfl ?_
  refine aN rfl ?_;refine T.ret ?_;obtain rfl:=osi h0;exact rO [] [2,3] rfl undef (cT rfl (cT rfl ResL.nil)) rfl rfl rfl rfl
 refine T.condF rfl (eq_false_of_ne_true c6) ?_;refine aS ?_;iterate 2 refine aA rfl rfl ?_
 refine aN rfl ?_;rcases ite_some h0 with ⟨c7,h0⟩|⟨c7,h0⟩
 ·refine T.condT rfl (c7) ?_;refine aS ?_;iterate 5 refine aA rfl rfl ?_
  refine aN rfl ?_;refine T.ret ?_;obtain rfl:=osi h0;exact rO [] [2,3] rfl undef (cT rfl (cT rfl ResL.nil)) rfl rfl rfl rfl
 refine T.condF rfl (eq_false_of_ne_true c7) ?_;refine aK rfl ?_;refine aS ?_;iterate 4 refine aA rfl rfl ?_
 refine aN rfl ?_;refine T.ret ?_;obtain rfl:=osi h0;exact rO [] [2,3] rfl undef (cT rfl (cT rfl ResL.nil)) rfl rfl rfl rfl
noncomputable def cmp_isNaN_int (a0:Int):Option Bool:=
 some (!(a0==a0))
theorem cmp_isNaN_int_c {a0:Int} {res:Bool} (h0:cmp_isNaN_int a0=some res):CallF X 239 [dN a0] [] (fun x=>(dT res)) (fun x=>[]):=by
 unfold cmp_isNaN_int at h0;refine CallF.mkG (X:=X) rfl Tryz.func239 rfl rfl Tryz.ntmps239 rfl rfl ?_;refine aS ?_;refine aA rfl rfl ?_;refine aN rfl ?_;refine aS ?_;iterate 4 refine aA rfl rfl ?_
 refine aN rfl ?_;refine T.ret ?_;obtain rfl:=osi h0;exact rO [] [2] rfl undef (cT rfl ResL.nil) rfl rfl rfl rfl
noncomputable def cmp_Compare_int (a0:Int) (a1:Int):Option Int:=
 bnd (cmp_isNaN_int a0) fun x1=>
 bnd (cmp_isNaN_int a1) fun x2=>
 if x1=true then
 if x2=true then
 some 0
else
 some (-1)
else
 if x2=true then
 some 1
else
 if a0<a1 then
 some (-1)
else
 if a0>a1 then
 some 1
else
 some 0
theorem cmp_Compare_int_c {a0:Int} {a1:Int} {res:Int} (h0:cmp_Compare_int a0 a1=some res):CallF X 213 [dN a0,dN a1] [] (fun x=>(dN res)) (fun x=>[]):=by
 unfold cmp_Compare_int at h0;refine CallF.mkG (X:=X) rfl Tryz.func213 rfl rfl Tryz.ntmps213 rfl rfl ?_;refine aS ?_;refine aA rfl rfl ?_;refine aN rfl ?_;refine aS ?_;refine aA rfl rfl ?_;obtain⟨x1,hx1,h0⟩:=bS h0;refine TL.op1 (OpR.call0 fn239 (cmp_isNaN_int_c hx1) rfl) rfl ?_;refine aA rfl rfl ?_;refine aN rfl ?_;refine aS ?_;refine aA rfl rfl ?_;obtain⟨x2,hx2,h0⟩:=bS h0;refine TL.op1 (OpR.call0 fn239 (cmp_isNaN_int_c hx2) rfl) rfl ?_;refine aA rfl rfl ?_;refine aN rfl ?_;refine T.seq ?_;refine aS ?_;refine aA rfl rfl ?_;refine aN rfl ?_;rcases ite_some h0 with ⟨c3,h0⟩|⟨c3,h0⟩
 ·refine T.condT rfl (c3) ?_;refine T.seq ?_;refine aS ?_;refine aA rfl rfl ?_;refine aN rfl ?_;rcases ite_some h0 with ⟨c4,h0⟩|⟨c4,h0⟩
  ·refine T.condT rfl (c4) ?_;refine aS ?_;refine aA rfl rfl ?_;refine aN rfl ?_;refine T.ret ?_;obtain rfl:=osi h0;exact rO [] [4] rfl undef (cT rfl ResL.nil) rfl rfl rfl rfl
  refine T.condF rfl (eq_false_of_ne_true c4) ?_;refine aK rfl ?_;refine aS ?_;refine aA rfl rfl ?_;refine aN rfl ?_;refine T.ret ?_;obtain rfl:=osi h0;exact rO [] [4] rfl undef (cT rfl ResL.nil) rfl rfl rfl rfl
 refine T.condF rfl (eq_false_of_ne_true c3) ?_;refine aK rfl ?_;refine T.seq ?_;refine aS ?_;refine aA rfl rfl ?_;refine aN rfl ?_;rcases ite_some h0 with ⟨c5,h0⟩|⟨c5,h0⟩
 ·refine T.condT rfl (c5) ?_;refine aS ?_;refine aA rfl rfl ?_;refine aN rfl ?_;refine T.ret ?_;obtain rfl:=osi h0;exact rO [] [4] rfl undef (cT rfl ResL.nil) rfl rfl rfl rfl
 refine T.condF rfl (eq_false_of_ne_true c5) ?_;refine aK rfl ?_;refine T.seq ?_;refine aS ?_;iterate 3 refine aA rfl rfl ?_
 refine aN rfl ?_;rcases ite_some h0 with ⟨c6,h0⟩|⟨c6,h0⟩
 ·refine T.condT rfl (eT c6) ?_;refine aS ?_;refine aA rfl rfl ?_;refine aN rfl ?_;refine T.ret ?_;obtain rfl:=osi h0;exact rO [] [4] rfl undef (cT rfl ResL.nil) rfl rfl rfl rfl
 refine T.condF rfl (eF c6) ?_;refine aK rfl ?_;refine T.seq ?_;refine aS ?_;iterate 3 refine aA rfl rfl ?_
 refine aN rfl ?_;rcases ite_some h0 with ⟨c7,h0⟩|⟨c7,h0⟩
 ·refine T.condT rfl (eT c7) ?_;refine aS ?_;refine aA rfl rfl ?_;refine aN rfl ?_;refine T.ret ?_;obtain rfl:=osi h0;exact rO [] [4] rfl undef (cT rfl ResL.nil) rfl rfl rfl rfl
 refine T.condF rfl (eF c7) ?_;refine aK rfl ?_;refine aS ?_;refine aA rfl rfl ?_;refine aN rfl ?_;refine T.ret ?_;obtain rfl:=osi h0;exact rO [] [4] rfl undef (cT rfl ResL.nil) rfl rfl rfl rfl
noncomputable def cmp_isNaN_byte (a0:UInt8):Option Bool:=
 some (!((a0.toNat:Int)==(a0.toNat:Int)))
theorem cmp_isNaN_byte_c {a0:UInt8} {res:Bool} (h0:cmp_isNaN_byte a0=some res):CallF X 263 [.val (.int .u8 (a0.toNat:Int))] [] (fun x=>(dT res)) (fun x=>[]):=by
 unfold cmp_isNaN_byte at h0;refine CallF.mkG (X:=X) rfl Tryz.func263 rfl rfl Tryz.ntmps263 rfl rfl ?_;refine aS ?_;refine aA rfl rfl ?_;refine aN rfl ?_;refine aS ?_;iterate 4 refine aA rfl rfl ?_
 refine aN rfl ?_;refine T.ret ?_;obtain rfl:=osi h0;exact rO [] [2] rfl undef (cT rfl ResL.nil) rfl rfl rfl rfl
noncomputable def cmp_Compare_byte (a0:UInt8) (a1:UInt8):Option Int:=
 bnd (cmp_isNaN_byte a0) fun x1=>
 bnd (cmp_isNaN_byte a1) fun x2=>
 if x1=true then
 if x2=true then
 some 0
else
 some (-1)
else
 if x2=true then
 some 1
else
 if (a0.toNat:Int)<(a1.toNat:Int) then
 some (-1)
else
 if (a0.toNat:Int)>(a1.toNat:Int) then
 some 1
else
 some 0
theorem cmp_Compare_byte_c {a0:UInt8} {a1:UInt8} {res:Int} (h0:cmp_Compare_byte a0 a1=some res):CallF X 240 [.val (.int .u8 (a0.toNat:Int)),.val (.int .u8 (a1.toNat:Int))] [] (fun x=>(dN res)) (fun x=>[]):=by
 unfold cmp_Compare_byte at h0;refine CallF.mkG (X:=X) rfl Tryz.func240 rfl rfl Tryz.ntmps240 rfl rfl ?_;refine aS ?_;refine aA rfl rfl ?_;refine aN rfl ?_;refine aS ?_;refine aA rfl rfl ?_;obtain⟨x1,hx1,h0⟩:=bS h0;refine TL.op1 (OpR.call0 fn263 (cmp_isNaN_byte_c hx1) rfl) rfl ?_;refine aA rfl rfl ?_;refine aN rfl ?_;refine aS ?_;refine aA rfl rfl ?_;obtain⟨x2,hx2,h0⟩:=bS h0;refine TL.op1 (OpR.call0 fn263 (cmp_isNaN_byte_c hx2) rfl) rfl ?_;refine aA rfl rfl ?_;refine aN rfl ?_;refine T.seq ?_;refine aS ?_;refine aA rfl rfl ?_;refine aN rfl ?_;rcases ite_some h0 with ⟨c3,h0⟩|⟨c3,h0⟩
 ·refine T.condT rfl (c3) ?_;refine T.seq ?_;refine aS ?_;refine aA rfl rfl ?_;refine aN rfl ?_;rcases ite_some h0 with ⟨c4,h0⟩|⟨c4,h0⟩
  ·refine T.condT rfl (c4) ?_;refine aS ?_;refine aA rfl rfl ?_;refine aN rfl ?_;refine T.ret ?_;obtain rfl:=osi h0;exact rO [] [4] rfl undef (cT rfl ResL.nil) rfl rfl rfl rfl
  refine T.condF rfl (eq_false_of_ne_true c4) ?_;refine aK rfl ?_;refine aS ?_;refine aA rfl rfl ?_;refine aN rfl ?_;refine T.ret ?_;obtain rfl:=osi h0;exact rO [] [4] rfl undef (cT rfl ResL.nil) rfl rfl rfl rfl
 refine T.condF rfl (eq_false_of_ne_true c3) ?_;refine aK rfl ?_;refine T.seq ?_;refine aS ?_;refine aA rfl rfl ?_;refine aN rfl ?_;rcases ite_some h0 with ⟨c5,h0⟩|⟨c5,h0⟩
 ·refine T.condT rfl (c5) ?_;refine aS ?_;refine aA rfl rfl ?_;refine aN rfl ?_;refine T.ret ?_;obtain rfl:=osi h0;exact rO [] [4] rfl undef (cT rfl ResL.nil) rfl rfl rfl rfl
 refine T.condF rfl (eq_false_of_ne_true c5) ?_;refine aK rfl ?_;refine T.seq ?_;refine aS ?_;iterate 3 refine aA rfl rfl ?_
 refine aN rfl ?_;rcases ite_some h0 with ⟨c6,h0⟩|⟨c6,h0⟩
 ·refine T.condT rfl (eT c6) ?_;refine aS ?_;refine aA rfl rfl ?_;refine aN rfl ?_;refine T.ret ?_;obtain rfl:=osi h0;exact rO [] [4] rfl undef (cT rfl ResL.nil) rfl rfl rfl rfl
 refine T.condF rfl (eF c6) ?_;refine aK rfl ?_;refine T.seq ?_;refine aS ?_;iterate 3 refine aA rfl rfl ?_
 refine aN rfl ?_;rcases ite_some h0 with ⟨c7,h0⟩|⟨c7,h0⟩
 ·refine T.condT rfl (eT c7) ?_;refine aS ?_;refine aA rfl rfl ?_;refine aN rfl ?_;refine T.ret ?_;obtain rfl:=osi h0;exact rO [] [4] rfl undef (cT rfl ResL.nil) rfl rfl rfl rfl
 refine T.condF rfl (eF c7) ?_;refine aK rfl ?_;refine aS ?_;refine aA rfl rfl ?_;refine aN rfl ?_;refine T.ret ?_;obtain rfl:=osi h0;exact rO [] [4] rfl undef (cT rfl ResL.nil) rfl rfl rfl rfl
noncomputable def num_bytewise.l1 (a0:List UInt8) (a1:List UInt8) (s12:Int):Option (Lp Int Int):=
 if s12<(a0.length:Int) then
 bnd (idx a0 s12) fun x21=>
 if s12=(a1.length:Int) then
 some (Lp.done 1)
else
 bnd (idx a1 s12) fun x23=>
 if (x21.toNat:Int)=(x23.toNat:Int) then
 some (Lp.next (w64 (s12+1)))
else
 bnd (cmp_Compare_byte x21 x23) fun x25=>
 some (Lp.done x25)
else
 some (Lp.done 0)
noncomputable def num_bytewise.l2 (a0:List UInt8) (a1:List UInt8) (s3:Unit):Option (Lp Unit Int):=
 bnd (loop (num_bytewise.l1 a0 a1) 0:Option Int) fun t11=>
 bnd (if t11=0 then
 some (decide ((a0.length:Int)<(a1.length:Int)))
else
 some false:Option Bool) fun t26=>
 if t26=true then
 some (Lp.done (-1))
else
 some (Lp.done t11)
noncomputable def num_bytewise (a0:List UInt8) (a1:List UInt8):Option Int:=
 loop (num_bytewise.l2 a0 a1) ()
theorem num_bytewise_c {a0:List UInt8} {a1:List UInt8} {res:Int} (h0:num_bytewise a0 a1=some res):CallF X 214 [.sl 1 (lB a0),.sl 1 (lB a1)] [] (fun x=>(dN res)) (fun x=>[]):=by
 unfold num_bytewise at h0;refine CallF.mkG (X:=X) rfl Tryz.func214 rfl rfl Tryz.ntmps214 rfl rfl ?_;refine aS ?_;refine aA rfl rfl ?_;refine aN rfl ?_;refine T.scope rfl 0 rfl ?_;refine aS ?_;refine aA rfl rfl ?_;refine aN rfl ?_;refine T.seq ?_;refine T.label ?_;show T X _ _ _;obtain⟨n4,n9⟩:=loop_some h0;refine T.atLabelS rfl ?_ (fun n S'=>∃ S'',Gst S' S''∧∃ s3:Unit,S''=⟨[(5,(dN 0)),(4,(dN 0)),(1,.sl 1 (lB a1)),(0,.sl 1 (lB a0))],[],44⟩∧iter (num_bytewise.l2 a0 a1) n s3=some res) n4 ?_ ?_
 ·rfl
 ·exact⟨_,Gst.only [0,1,4,5] rfl,(),rfl,n9⟩
 rintro n4 _ ⟨_,g,s3,rfl,i8⟩;refine T.ghost g ?_;obtain⟨m5,q6,rfl,q7,i8⟩:=iter_succ i8;unfold num_bytewise.l2 at q7;refine T.seq ?_;refine aS ?_;refine aA rfl rfl ?_;refine TL.op1 (OpR.cast (OpR.pure rfl) (intE (lenM _ _))) rfl ?_;refine aA rfl rfl ?_;refine aN rfl ?_;obtain⟨t11,ht11,q7⟩:=bS q7;refine T.cutC (fun S'=>S'=⟨[(5,(dN t11)),(4,(dN 0)),(1,.sl 1 (lB a1)),(0,.sl 1 (lB a0))],[],44⟩) (fun _ h=>h) ?_ ?_;rotate_left
 ·rintro _ rfl;show T X _ _ _;refine T.seq ?_;refine T.seq ?_;obtain⟨t26,ht26,q7⟩:=bS q7;refine T.cutC (fun S'=>S'=⟨[(42,(dT t26)),(5,(dN t11)),(4,(dN 0)),(1,.sl 1 (lB a1)),(0,.sl 1 (lB a0))],[],44⟩) (fun _ h=>h) ?_ ?_;rotate_left
  ·rintro _ rfl;show T X _ _ _;rcases ite_some q7 with ⟨c28,q7⟩|⟨c28,q7⟩
   ·refine T.condT rfl (c28) ?_;refine aS ?_;refine aA rfl rfl ?_;refine aN rfl ?_;refine T.ret ?_;obtain rfl:=osi q7;obtain rfl:_=_:=i8;exact rO [] [4] rfl undef (cT rfl ResL.nil) rfl rfl rfl rfl
   refine T.condF rfl (eq_false_of_ne_true c28) ?_;refine aK rfl ?_;refine aS ?_;iterate 2 refine aA rfl rfl ?_
   refine aN rfl ?_;refine T.ret ?_;obtain rfl:=osi q7;obtain rfl:_=_:=i8;exact rO [] [4] rfl undef (cT rfl ResL.nil) rfl rfl rfl rfl
  refine T.region ?_;iterate 3 refine aA rfl rfl ?_
  rcases ite_some ht26 with ⟨c27,ht26⟩|⟨c27,ht26⟩;rotate_left
  ·refine TL.off rfl rfl rfl rfl (beq_eq_false_iff_ne.2 c27) rfl rfl ?_;refine TL.off rfl rfl rfl rfl (beq_eq_false_iff_ne.2 c27) rfl rfl ?_;refine TL.off rfl rfl rfl rfl (beq_eq_false_iff_ne.2 c27) rfl rfl ?_;refine TL.off rfl rfl rfl rfl (beq_eq_false_iff_ne.2 c27) rfl rfl ?_;refine TL.off rfl rfl rfl rfl (beq_eq_false_iff_ne.2 c27) rfl rfl ?_;refine TL.op1 (OpR.pickF rfl (beq_eq_false_iff_ne.2 c27) rfl) rfl ?_;refine TL.nil ?_;obtain rfl:=osi ht26;exact⟨_,Gst.only [0,1,4,5,42] rfl,rfl⟩
  refine TL.on rfl rfl rfl rfl (beq_iff_eq.2 c27) ?_;refine aA rfl rfl ?_;refine TL.on rfl rfl rfl rfl (beq_iff_eq.2 c27) ?_;refine TL.op1 (OpR.cast (OpR.pure rfl) (intE (lenM _ _))) rfl ?_;refine TL.on rfl rfl rfl rfl (beq_iff_eq.2 c27) ?_;refine aA rfl rfl ?_;refine TL.on rfl rfl rfl rfl (beq_iff_eq.2 c27) ?_;refine TL.op1 (OpR.cast (OpR.pure rfl) (intE (lenM _ _))) rfl ?_;refine TL.on rfl rfl rfl rfl (beq_iff_eq.2 c27) ?_;refine aA rfl rfl ?_;refine TL.op1 (OpR.pickT rfl (beq_iff_eq.2 c27) rfl) rfl ?_;refine TL.nil ?_;obtain rfl:=osi ht26;exact⟨_,Gst.only [0,1,4,5,42] rfl,rfl⟩
 refine T.block ?_;obtain⟨n13,n18⟩:=loop_some ht11;refine T.loop (fun n S'=>∃ S'',Gst S' S''∧∃ s12:Int,S''=⟨[(10,(dN s12)),(9,(dN (a0.length:Int))),(8,.sl 1 (lB a0)),(5,(dN 0)),(4,(dN 0)),(1,.sl 1 (lB a1)),(0,.sl 1 (lB a0))],[],44⟩∧iter (num_bytewise.l1 a0 a1) n s12=some t11) n13 ?_ ?_
 ·exact⟨_,Gst.only [0,1,4,5,8,9,10] rfl,0,rfl,n18⟩
 rintro n13 _ ⟨_,g,s12,rfl,i17⟩;refine T.ghost g ?_;obtain⟨m14,q15,rfl,q16,i17⟩:=iter_succ i17;unfold num_bytewise.l1 at q16;refine aS ?_;refine aA rfl rfl ?_;refine aN rfl ?_;refine T.seq ?_;rcases ite_some q16 with ⟨c20,q16⟩|⟨c20,q16⟩;rotate_left
 ·refine T.condF rfl (eF c20) ?_;refine T.exit ?_;obtain rfl:=osi q16;obtain rfl:_=_:=i17;exact⟨_,Gst.only [0,1,4,5] rfl,rfl⟩
 refine T.condT rfl (eT c20) ?_;refine aK rfl ?_;refine T.seq ?_;refine T.block ?_;refine aS ?_;refine aA rfl rfl ?_;obtain⟨x21,hx21,q16⟩:=bS q16;refine TL.op1 (OpR.indexM byteD hx21 rfl rfl rfl rfl rfl) rfl ?_;iterate 3 refine aA rfl rfl ?_
 refine aN rfl ?_;refine T.block ?_;refine aS ?_;iterate 2 refine aA rfl rfl ?_
 refine TL.op1 (OpR.cast (OpR.pure rfl) (intE (lenM _ _))) rfl ?_;iterate 2 refine aA rfl rfl ?_
 refine aN rfl ?_;rcases ite_some q16 with ⟨c22,q16⟩|⟨c22,q16⟩
 ·refine T.condT rfl (beq_iff_eq.2 c22) ?_;refine aS ?_;refine aA rfl rfl ?_;refine aN rfl ?_;refine T.exit ?_;obtain rfl:=osi q16;obtain rfl:_=_:=i17;exact⟨_,Gst.only [0,1,4,5] rfl,rfl⟩
 refine T.condF rfl (beq_eq_false_iff_ne.2 c22) ?_;refine aS ?_;iterate 3 refine aA rfl rfl ?_
 obtain⟨x23,hx23,q16⟩:=bS q16;refine TL.op1 (OpR.indexM byteD hx23 rfl rfl rfl rfl rfl) rfl ?_;iterate 3 refine aA rfl rfl ?_
 refine aN rfl ?_;rcases ite_some q16 with ⟨c24,q16⟩|⟨c24,q16⟩
 ·refine T.condF rfl (not_t (beq_iff_eq.2 c24)) ?_;refine aK rfl ?_;refine T.region ?_;iterate 2 refine aA rfl rfl ?_
  refine TL.nil ?_;obtain rfl:=osi q16;exact⟨m14,Nat.lt_succ_self _,_,Gst.only [0,1,4,5,8,9,10] rfl,w64 (s12+1),rfl,i17⟩
 refine T.condT rfl (not_f (beq_eq_false_iff_ne.2 c24)) ?_;refine aS ?_;iterate 3 refine aA rfl rfl ?_
 refine TL.op1 (OpR.indexM byteD hx23 rfl rfl rfl rfl rfl) rfl ?_;refine aA rfl rfl ?_;obtain⟨x25,hx25,q16⟩:=bS q16;refine TL.op1 (OpR.call0 fn240 (cmp_Compare_byte_c hx25) rfl) rfl ?_;refine aA rfl rfl ?_;refine aN rfl ?_;refine T.exit ?_;obtain rfl:=osi q16;obtain rfl:_=_:=i17;exact⟨_,Gst.only [0,1,4,5] rfl,rfl⟩
noncomputable def num_Compare (a0:List UInt8) (a1:List UInt8):Option Int:=
 bnd (num_Parse a0) fun x1=>
 bnd (num_Parse a1) fun x2=>
 bnd (if x1.2=true then
 some x2.2
else
 some false:Option Bool) fun t3=>
 if t3=true then
 bnd (cmp_Compare_int x1.1 x2.1) fun x6=>
 some x6
else
 if x1.2=true then
 some (-1)
else
 if x2.2=true then
 some 1
else
 bnd (num_bytewise a0 a1) fun x9=>
 some x9
theorem num_Compare_c {a0:List UInt8} {a1:List UInt8} {res:Int} (h0:num_Compare a0 a1=some res):CallF X 171 [.sl 1 (lB a0),.sl 1 (lB a1)] [] (fun x=>(dN res)) (fun x=>[]):=by
 unfold num_Compare at h0;refine CallF.mkG (X:=X) rfl Tryz.func171 rfl rfl Tryz.ntmps171 rfl rfl ?_;refine aS ?_;refine aA rfl rfl ?_;refine aN rfl ?_;refine aS ?_;refine aA rfl rfl ?_;obtain⟨x1,hx1,h0⟩:=bS h0;refine TL.op1 (OpR.call0 fn212 (num_Parse_c hx1) rfl) rfl ?_;iterate 5 refine aA rfl rfl ?_
 refine aN rfl ?_;refine aS ?_;refine aA rfl rfl ?_;obtain⟨x2,hx2,h0⟩:=bS h0;refine TL.op1 (OpR.call0 fn212 (num_Parse_c hx2) rfl) rfl ?_;iterate 5 refine aA rfl rfl ?_
 refine aN rfl ?_;refine T.seq ?_;refine T.block ?_;refine T.seq ?_;obtain⟨t3,ht3,h0⟩:=bS h0;refine T.cutC (fun S'=>S'=⟨[(19,(dT t3)),(8,(dT x2.2)),(7,(dN x2.1)),(6,(dT x1.2)),(5,(dN x1.1)),(4,(dN 0)),(1,.sl 1 (lB a1)),(0,.sl 1 (lB a0))],[],34⟩) (fun _ h=>h) ?_ ?_
 ·refine T.region ?_;iterate 2 refine aA rfl rfl ?_
  rcases ite_some ht3 with ⟨c4,ht3⟩|⟨c4,ht3⟩
  ·refine TL.on rfl rfl rfl rfl (c4) ?_;refine aA rfl rfl ?_;refine TL.op1 (OpR.pickT rfl (c4) rfl) rfl ?_;refine aA rfl rfl ?_;refine TL.nil ?_;obtain rfl:=osi ht3;exact⟨_,Gst.only [0,1,4,5,6,7,8,19] rfl,rfl⟩
  refine TL.off rfl rfl rfl rfl (eq_false_of_ne_true c4) rfl rfl ?_;refine TL.op1 (OpR.pickF rfl (eq_false_of_ne_true c4) rfl) rfl ?_;refine aA rfl rfl ?_;refine TL.nil ?_;obtain rfl:=osi ht3;exact⟨_,Gst.only [0,1,4,5,6,7,8,19] rfl,rfl⟩
 rintro _ rfl;show T X _ _ _;rcases ite_some h0 with ⟨c5,h0⟩|⟨c5,h0⟩
 ·refine T.condT rfl (c5) ?_;refine aS ?_;iterate 2 refine aA rfl rfl ?_
  obtain⟨x6,hx6,h0⟩:=bS h0;refine TL.op1 (OpR.call0 fn213 (cmp_Compare_int_c hx6) rfl) rfl ?_;refine aA rfl rfl ?_;refine aN rfl ?_;refine T.ret ?_;obtain rfl:=osi h0;exact rO [] [4] rfl undef (cT rfl ResL.nil) rfl rfl rfl rfl
 refine T.condF rfl (eq_false_of_ne_true c5) ?_;refine aS ?_;iterate 2 refine aA rfl rfl ?_
 refine aN rfl ?_;rcases ite_some h0 with ⟨c7,h0⟩|⟨c7,h0⟩
 ·refine T.condT rfl (c7) ?_;refine aS ?_;refine aA rfl rfl ?_;refine aN rfl ?_;refine T.ret ?_;obtain rfl:=osi h0;exact rO [] [4] rfl undef (cT rfl ResL.nil) rfl rfl rfl rfl
 refine T.condF rfl (eq_false_of_ne_true c7) ?_;refine aS ?_;iterate 2 refine aA rfl rfl ?_
 refine aN rfl ?_;rcases ite_some h0 with ⟨c8,h0⟩|⟨c8,h0⟩
 ·refine T.condT rfl (c8) ?_;refine aS ?_;refine aA rfl rfl ?_;refine aN rfl ?_;refine T.ret ?_;obtain rfl:=osi h0;exact rO [] [4] rfl undef (cT rfl ResL.nil) rfl rfl rfl rfl
 refine T.condF rfl (eq_false_of_ne_true c8) ?_;refine aK rfl ?_;refine aS ?_;iterate 2 refine aA rfl rfl ?_
 obtain⟨x9,hx9,h0⟩:=bS h0;refine TL.op1 (OpR.call0 fn214 (num_bytewise_c hx9) rfl) rfl ?_;refine aA rfl rfl ?_;refine aN rfl ?_;refine T.ret ?_;obtain rfl:=osi h0;exact rO [] [4] rfl undef (cT rfl ResL.nil) rfl rfl rfl rfl
noncomputable def order_standing_1.l1 (a0:row_Row) (a1:row_Row) (a2:List order_By) (a3:List UInt8) (s3:Int):Option (Lp Int (Ex Unit Int)):=
 if s3<(a2.length:Int) then
 bnd (idx a2 s3) fun x12=>
 bnd (order_text a0 x12.fCol a3) fun x15=>
 bnd (order_text a1 x12.fCol a3) fun x16=>
 bnd (num_Compare x15 x16) fun x17=>
 bnd (if x12.fDown=true then
 some (w64 (0-x17))
else
 some x17:Option Int) fun t18=>
 if t18=0 then
 some (Lp.next (w64 (s3+1)))
else
 some (Lp.done (Ex.ret t18))
else
 some (Lp.done (Ex.brk ()))
noncomputable def order_standing_1 (a0:row_Row) (a1:row_Row) (a2:List order_By) (a3:List UInt8):Option Int:=
 bnd (loop (order_standing_1.l1 a0 a1 a2 a3) 0:Option (Ex Unit Int)) fun t1=>match t1 with
| .brk u2=>
 some 0
| .ret u2=>some u2
theorem order_standing_1_c {a0:row_Row} {a1:row_Row} {a2:List order_By} {a3:List UInt8} {b0:Nat} {b1:Nat} {b2:Nat} {v3:Value} {res:Int} (h0:order_standing_1 a0 a1 a2 a3=some res):CallF X 170 [.agg [.sl 5 (List.map e_cell_Cell a0.fCells),dN a0.fEnd,dT a0.fHidden],.agg [.sl 5 (List.map e_cell_Cell a1.fCells),dN a1.fEnd,dT a1.fHidden],dP b0,dP b1] [.var b0 [.sl 2 (List.map e_order_By a2)] 104,.var b1 [dP b2] 28,.var b2 [.val v3] 264,.row v3 (lB a3) 1 5] (fun x=>(dN res)) (fun x=>[.var b0 [.sl 2 (List.map e_order_By a2)] 104,.var b1 [dP b2] 28,.var b2 [.val v3] 264,.row v3 (lB a3) 1 5]):=by
 unfold order_standing_1 at h0;refine CallF.mkG (X:=X) rfl Tryz.func170 rfl rfl Tryz.ntmps170 rfl rfl ?_;refine aS ?_;refine TL.op1 (OpR.boxImm rfl rfl) rfl ?_;refine TL.op1 (OpR.boxImm rfl rfl) rfl ?_;refine aA rfl rfl ?_;refine aN rfl ?_;refine T.seq ?_;refine aS ?_;refine TL.op1 (OpR.loadPtr 0 rfl rfl rfl rfl) rfl ?_;refine TL.op1 (OpR.cast (OpR.pure rfl) (intE (lenM _ _))) rfl ?_;refine aA rfl rfl ?_;refine aN rfl ?_;obtain⟨t1,ht1,h0⟩:=bS h0;refine T.cutC (fun S'=>∃ u2,t1=Ex.brk u2∧S'=⟨[(6,(dN 0))],[.var b0 [.sl 2 (List.map e_order_By a2)] 104,.var b1 [dP b2] 28,.var b2 [.val v3] 264,.row v3 (lB a3) 1 5],35⟩) (fun _ h=>h) ?_ ?_;rotate_left
 ·rintro _ ⟨u2,rfl,rfl⟩;show T X _ _ _;refine aS ?_;refine aA rfl rfl ?_;refine aN rfl ?_;refine T.ret ?_;obtain rfl:=osi h0;exact rO [0,1,2,3] [6] rfl undef (cT rfl ResL.nil) rfl rfl rfl rfl
 refine T.block ?_;obtain⟨n4,n9⟩:=loop_some ht1;refine T.loop (fun n S'=>∃ S'',Gst S' S''∧∃ s3:Int,S''=⟨[(12,(dN s3)),(11,(dN (a2.length:Int))),(10,.sl 2 (List.map e_order_By a2)),(6,(dN 0)),(5,.nod [.sl 5 (List.map e_cell_Cell a1.fCells),dN a1.fEnd,dT a1.fHidden]),(4,.nod [.sl 5 (List.map e_cell_Cell a0.fCells),dN a0.fEnd,dT a0.fHidden]),(3,(dP b1))],[.var b0 [.sl 2 (List.map e_order_By a2)] 104,.var b1 [dP b2] 28,.var b2 [.val v3] 264,.row v3 (lB a3) 1 5],35⟩∧iter (order_standing_1.l1 a0 a1 a2 a3) n s3=some t1) n4 ?_ ?_
 ·exact⟨_,Gst.only [3,4,5,6,10,11,12] rfl,0,rfl,n9⟩
 rintro n4 _ ⟨_,g,s3,rfl,i8⟩;refine T.ghost g ?_;obtain⟨m5,q6,rfl,q7,i8⟩:=iter_succ i8;unfold order_standing_1.l1 at q7;refine aS ?_;refine aA rfl rfl ?_;refine aN rfl ?_;refine T.seq ?_;rcases ite_some q7 with ⟨c11,q7⟩|⟨c11,q7⟩;rotate_left
 ·refine T.condF rfl (eF c11) ?_;refine T.exit ?_;obtain rfl:=osi q7;obtain rfl:_=_:=i8;exact⟨_,Gst.only [6] rfl,_,rfl,rfl⟩
 refine T.condT rfl (eT c11) ?_;refine aK rfl ?_;refine T.seq ?_;refine T.block ?_;refine aS ?_;obtain⟨x12,hx12,q7⟩:=bS q7;refine TL.op1 (OpR.indexM e_order_By hx12 rfl rfl rfl rfl rfl) rfl ?_;refine aA rfl rfl ?_;refine TL.op (OpR.alloc rfl rfl (fun _=>rfl)) rfl (fun p13=>?_);refine TL.op0 (OpR.store 4 rfl rfl rfl rfl rfl rfl rfl rfl) ?_;refine aN rfl ?_;refine T.seq ?_;obtain⟨x15,hx15,q7⟩:=bS q7;obtain⟨x16,hx16,q7⟩:=bS q7;obtain⟨x17,hx17,q7⟩:=bS q7;refine T.drawQ drawsX [.agg [.sl 5 (List.map e_cell_Cell a0.fCells),dN a0.fEnd,dT a0.fHidden],dP b2,dP (blk p13),dN x12.fCol,.sl 1 (lB x15),.agg [.sl 5 (List.map e_cell_Cell a1.fCells),dN a1.fEnd,dT a1.fHidden],dP b2,dP (blk p13),dN x12.fCol,.sl 1 (lB x16),dN x17,dN x17] [3,4,5,6,8,9,10,11,12] (by decide +kernel) rfl ?_ rfl ?_
 ·refine aB rfl rfl rfl ?_;refine OpsQ.yes (Want.plain rfl) rfl (OpR.loadPtr 1 rfl rfl rfl rfl) ?_;refine aB rfl rfl rfl ?_;refine OpsQ.yes (Want.plain rfl) rfl (OpR.loadPtr 4 rfl rfl rfl rfl) ?_;refine OpsQ.yes (Want.plain rfl) rfl (OpR.call [2,3] fn172 (order_text_c hx15) rfl rfl rfl (fun _=>rfl)) ?_;refine aB rfl rfl rfl ?_;refine OpsQ.yes (Want.plain rfl) rfl (OpR.loadPtr 1 rfl rfl rfl rfl) ?_;refine aB rfl rfl rfl ?_;refine OpsQ.yes (Want.plain rfl) rfl (OpR.loadPtr 4 rfl rfl rfl rfl) ?_;refine OpsQ.yes (Want.plain rfl) rfl (OpR.call [2,3] fn172 (order_text_c hx16) rfl rfl rfl (fun _=>rfl)) ?_;refine OpsQ.yes (Want.plain rfl) rfl (OpR.call0 fn171 (num_Compare_c hx17) rfl) ?_;refine aB rfl rfl rfl ?_;exact OpsQ.nil
 show T X _ _ _;refine T.seq ?_;refine aS ?_;refine aA rfl rfl ?_;refine TL.op1 (OpR.loadPtr 4 rfl rfl rfl rfl) rfl ?_;refine aN rfl ?_;obtain⟨t18,ht18,q7⟩:=bS q7;refine T.cutC (fun S'=>S'=⟨[(12,(dN s3)),(11,(dN (a2.length:Int))),(10,.sl 2 (List.map e_order_By a2)),(9,(dN t18)),(6,(dN 0)),(5,.nod [.sl 5 (List.map e_cell_Cell a1.fCells),dN a1.fEnd,dT a1.fHidden]),(4,.nod [.sl 5 (List.map e_cell_Cell a0.fCells),dN a0.fEnd,dT a0.fHidden]),(3,(dP b1))],[.var b0 [.sl 2 (List.map e_order_By a2)] 104,.var b1 [dP b2] 28,.var b2 [.val v3] 264,.row v3 (lB a3) 1 5],35⟩) (fun _ h=>h) ?_ ?_
 ·rcases ite_some ht18 with ⟨c19,ht18⟩|⟨c19,ht18⟩;rotate_left
  ·refine T.condF rfl (eq_false_of_ne_true c19) ?_;refine T.skip ?_;obtain rfl:=osi ht18;exact⟨_,gP [3,4,5,6,9,10,11,12] [0,1,2,3] rfl rfl rfl,rfl⟩
  refine T.condT rfl (c19) ?_;refine T.region ?_;iterate 3 refine aA rfl rfl ?_
  refine TL.nil ?_;obtain rfl:=osi ht18;exact⟨_,gP [3,4,5,6,9,10,11,12] [0,1,2,3] rfl rfl rfl,rfl⟩
 rintro _ rfl;show T X _ _ _;refine aS ?_;iterate 2 refine aA rfl rfl ?_
 refine aN rfl ?_;rcases ite_some q7 with ⟨c20,q7⟩|⟨c20,q7⟩
 ·refine T.condF rfl (not_t (beq_iff_eq.2 c20)) ?_;refine aK rfl ?_;refine T.region ?_;iterate 2 refine aA rfl rfl ?_
  refine TL.nil ?_;obtain rfl:=osi q7;exact⟨m5,Nat.lt_succ_self _,_,Gst.only [3,4,5,6,10,11,12] rfl,w64 (s3+1),rfl,i8⟩
 refine T.condT rfl (not_f (beq_eq_false_iff_ne.2 c20)) ?_;refine aS ?_;iterate 2 refine aA rfl rfl ?_
 refine aN rfl ?_;refine T.ret ?_;obtain rfl:=osi q7;obtain rfl:_=_:=i8;obtain rfl:=osi h0;exact rO [0,1,2,3] [6] rfl undef (cT rfl ResL.nil) rfl rfl rfl rfl
noncomputable def merge_Runs_row_Row.l1 (a0:List row_Row) (a1:List order_By) (a2:List UInt8) (s4:Int × Int × (List (List row_Row))):Option (Lp (Int × Int × (List (List row_Row))) (List (List row_Row))):=
 if s4.2.1<(a0.length:Int) then
 bnd (bnd (if (w64 (s4.2.1+1))<(a0.length:Int) then
 bnd (idx a0 s4.2.1) fun x18=>
 bnd (idx a0 (w64 (s4.2.1+1))) fun x19=>
 bnd (order_standing_1 x18 x19 a1 a2) fun x20=>
 some (decide (x20≤0))
else
 some false:Option Bool) fun t15=>
 if t15=true then
 some (s4.1,s4.2.2)
else
 bnd (cut a0 s4.1 (w64 (s4.2.1+1))) fun x22=>
 bnd (slices_Clone_row_Row_row_Row x22) fun x23=>
 bnd (app 24 s4.2.2 [x23]) fun x25=>
 some (w64 (s4.2.1+1),x25):Option (Int × (List (List row_Row)))) fun t13=>
 some (Lp.next (t13.1,w64 (s4.2.1+1),t13.2))
else
 some (Lp.done s4.2.2)
noncomputable def merge_Runs_row_Row (a0:List row_Row) (a1:List order_By) (a2:List UInt8):Option (List (List row_Row)):=
 bnd (loop (merge_Runs_row_Row.l1 a0 a1 a2) (0,0,[]):Option (List (List row_Row))) fun t1=>
 some t1
theorem merge_Runs_row_Row_c {a0:List row_Row} {a1:List order_By} {a2:List UInt8} {b0:Nat} {b1:Nat} {b2:Nat} {v3:Value} {res:(List (List row_Row))} (h0:merge_Runs_row_Row a0 a1 a2=some res):CallF X 127 [.sl 3 (List.map e_row_Row a0),.fn (.func 170) [] [dP b0,dP b1]] [.var b0 [.sl 2 (List.map e_order_By a1)] 104,.var b1 [dP b2] 28,.var b2 [.val v3] 264,.row v3 (lB a2) 1 5] (fun x=>.sl 1 (List.map e_sl163 res)) (fun x=>[.var b0 [.sl 2 (List.map e_order_By a1)] 104,.var b1 [dP b2] 28,.var b2 [.val v3] 264,.row v3 (lB a2) 1 5]):=by
 unfold merge_Runs_row_Row at h0;refine CallF.mkG (X:=X) rfl Tryz.func127 rfl rfl Tryz.ntmps127 rfl rfl ?_;refine aS ?_;refine aA rfl rfl ?_;refine aN rfl ?_;refine aS ?_;refine aA rfl rfl ?_;refine aN rfl ?_;refine aS ?_;refine aA rfl rfl ?_;refine aN rfl ?_;refine T.seq ?_;refine aS ?_;refine aA rfl rfl ?_;refine TL.op1 (OpR.cast (OpR.pure rfl) (intE (lenM _ _))) rfl ?_;refine aA rfl rfl ?_;refine aN rfl ?_;obtain⟨t1,ht1,h0⟩:=bS h0;refine T.cutC (fun S'=>∃ y2:Value,S'=⟨[(5,.val y2),(4,.val (.slice none 0 0))],[.var b0 [.sl 2 (List.map e_order_By a1)] 104,.var b1 [dP b2] 28,.var b2 [.val v3] 264,.row v3 (lB a2) 1 5,.row y2 (List.map e_sl163 t1) 1 163],45⟩) (fun _ h=>h) ?_ ?_;rotate_left
 ·rintro _ ⟨y2,rfl⟩;show T X _ _ _;refine aS ?_;iterate 2 refine aA rfl rfl ?_
  refine aN rfl ?_;refine T.ret ?_;obtain rfl:=osi h0;exact PostG.retP (ks:=[0,1,2,3]) (Gst.trans (Gst.only [4] rfl) (Gst.trans (Gst.freezeRow 4 rfl rfl (ReS.cons (Re.base .all) ReS.nil) (ReO.same (ReO.same (ReO.same (ReO.same (ReO.same ReO.nil)))))) (Gst.pick [0,1,2,3] rfl rfl))) undef (cT rfl ResL.nil) rfl rfl rfl rfl
 refine T.block ?_;obtain⟨n5,n10⟩:=loop_some ht1;refine T.loop (fun n S'=>∃ S'',Gst S' S''∧∃ y3:Value,∃ s4:Int × Int × (List (List row_Row)),S''=⟨[(10,(dN s4.2.1)),(9,(dN (a0.length:Int))),(6,(dN s4.1)),(5,.val y3),(4,.val (.slice none 0 0)),(1,.fn (.func 170) [] [dP b0,dP b1]),(0,.sl 3 (List.map e_row_Row a0))],[.var b0 [.sl 2 (List.map e_order_By a1)] 104,.var b1 [dP b2] 28,.var b2 [.val v3] 264,.row v3 (lB a2) 1 5,.row y3 (List.map e_sl163 s4.2.2) 1 163],45⟩∧iter (merge_Runs_row_Row.l1 a0 a1 a2) n s4=some t1) n5 ?_ ?_
 ·exact⟨_,Gst.trans (Gst.only [0,1,4,5,6,9,10] rfl) (Gst.nilRow (ow:=[.var b0 [.sl 2 (List.map e_order_By a1)] 104,.var b1 [dP b2] 28,.var b2 [.val v3] 264,.row v3 (lB a2) 1 5]) 1 163 rfl),(.slice none 0 0),(0,0,[]),rfl,n10⟩
 rintro n5 _ ⟨_,g,y3,s4,rfl,i9⟩;refine T.ghost g ?_;obtain⟨m6,q7,rfl,q8,i9⟩:=iter_succ i9;unfold merge_Runs_row_Row.l1 at q8;refine aS ?_;refine aA rfl rfl ?_;refine aN rfl ?_;refine T.seq ?_;rcases ite_some q8 with ⟨c12,q8⟩|⟨c12,q8⟩;rotate_left
 ·refine T.condF rfl (eF c12) ?_;refine T.exit ?_;obtain rfl:=osi q8;obtain rfl:_=_:=i9;exact⟨_,Gst.only [4,5] rfl,y3,rfl⟩
 refine T.condT rfl (eT c12) ?_;refine aK rfl ?_;refine T.seq ?_;obtain⟨t13,ht13,q8⟩:=bS q8;refine T.cutC (fun S'=>∃ y14:Value,S'=⟨[(10,(dN s4.2.1)),(9,(dN (a0.length:Int))),(6,(dN t13.1)),(5,.val y14),(4,.val (.slice none 0 0)),(1,.fn (.func 170) [] [dP b0,dP b1]),(0,.sl 3 (List.map e_row_Row a0))],[.var b0 [.sl 2 (List.map e_order_By a1)] 104,.var b1 [dP b2] 28,.var b2 [.val v3] 264,.row v3 (lB a2) 1 5,.row y14 (List.map e_sl163 t13.2) 1 163],45⟩) (fun _ h=>h) ?_ ?_;rotate_left
 ·rintro _ ⟨y14,rfl⟩;show T X _ _ _;refine T.region ?_;iterate 2 refine aA rfl rfl ?_
  refine TL.nil ?_;obtain rfl:=osi q8;exact⟨m6,Nat.lt_succ_self _,_,Gst.only [0,1,4,5,6,9,10] rfl,y14,(t13.1,w64 (s4.2.1+1),t13.2),rfl,i9⟩
 refine T.block ?_;refine aS ?_;iterate 2 refine aA rfl rfl ?_
 refine aN rfl ?_;refine T.seq ?_;refine T.seq ?_;obtain⟨t15,ht15,ht13⟩:=bS ht13;refine T.cutC (fun S'=>S'=⟨[(31,(dT t15)),(10,(dN s4.2.1)),(9,(dN (a0.length:Int))),(7,(dN s4.2.1)),(6,(dN s4.1)),(5,.val y3),(4,.val (.slice none 0 0)),(1,.fn (.func 170) [] [dP b0,dP b1]),(0,.sl 3 (List.map e_row_Row a0))],[.var b0 [.sl 2 (List.map e_order_By a1)] 104,.var b1 [dP b2] 28,.var b2 [.val v3] 264,.row v3 (lB a2) 1 5,.row y3 (List.map e_sl163 s4.2.2) 1 163],45⟩) (fun _ h=>h) ?_ ?_;rotate_left
 ·rintro _ rfl;show T X _ _ _;rcases ite_some ht13 with ⟨c21,ht13⟩|⟨c21,ht13⟩
  ·refine T.condT rfl (c21) ?_;refine T.exit ?_;obtain rfl:=osi ht13;exact⟨_,Gst.only [0,1,4,5,6,9,10] rfl,y3,rfl⟩
  refine T.condF rfl (eq_false_of_ne_true c21) ?_;refine aK rfl ?_;refine aS ?_;iterate 5 refine aA rfl rfl ?_
  obtain⟨x22,hx22,ht13⟩:=bS ht13;refine TL.op1 (OpR.sliceM (sz:=3) e_row_Row hx22 rfl rfl rfl rfl (BdM.some rfl) (BdM.some rfl) rfl) rfl ?_;obtain⟨x23,hx23,ht13⟩:=bS ht13;refine TL.op (OpR.call [] fn191 (slices_Clone_row_Row_row_Row_c hx23) rfl rfl rfl (fun _=>rfl)) rfl (fun w24=>?_);refine TL.ghost (Gst.freezeRow 5 rfl rfl (ReS.cons (Re.base .all) (ReS.refl _)) (ReO.same (ReO.same (ReO.same (ReO.same (ReO.same (ReO.same ReO.nil))))))) ?_;refine TL.op1 (OpR.lit rfl rfl rfl rfl rfl rfl rfl) rfl ?_;obtain⟨x25,hx25,ht13⟩:=bS ht13;refine TL.op (OpR.appendM (m:=[x23]) e_sl163 4 hx25 rfl rfl rfl rfl rfl rfl rfl rfl rfl (fun _=>rfl)) rfl (fun v26=>?_);refine aA rfl rfl ?_;refine aN rfl ?_;refine T.region ?_;iterate 3 refine aA rfl rfl ?_
  refine TL.nil ?_;obtain rfl:=osi ht13;exact⟨_,gP [0,1,4,5,6,9,10] [0,1,2,3,4] rfl rfl rfl,v26,rfl⟩
 rcases ite_some ht15 with ⟨c17,ht15⟩|⟨c17,ht15⟩;rotate_left
 ·refine T.drawQ drawsX [dN s4.2.1,dN (w64 (s4.2.1+1)),.sl 3 (List.map e_row_Row a0),dN (a0.length:Int),dT (decide ((w64 (s4.2.1+1))<(a0.length:Int))),dT (decide ((w64 (s4.2.1+1))<(a0.length:Int))),.tup [],.tup [],.tup [],.tup [],.tup [],.tup [],.tup [],.tup [],.tup [],.tup [],.tup [],.tup [],dT false] [0,1,4,5,6,7,9,10,31] (by decide +kernel) rfl ?_ rfl ?_;rotate_left
  ·obtain rfl:=osi ht15;exact⟨_,Gst.only [0,1,4,5,6,7,9,10,31] rfl,rfl⟩
  iterate 3 refine aB rfl rfl rfl ?_
  refine OpsQ.yes (Want.plain rfl) rfl (OpR.cast (OpR.pure rfl) (intE (lenM _ _))) ?_;iterate 2 refine aB rfl rfl rfl ?_
  refine OpsQ.no (Want.bool rfl rfl rfl rfl (by rw[(eF c17)]; rfl)) rfl ?_;refine OpsQ.no (Want.bool rfl rfl rfl rfl (by rw[(eF c17)]; rfl)) rfl ?_;refine OpsQ.no (Want.bool rfl rfl rfl rfl (by rw[(eF c17)]; rfl)) rfl ?_;refine OpsQ.no (Want.bool rfl rfl rfl rfl (by rw[(eF c17)]; rfl)) rfl ?_;refine OpsQ.no (Want.bool rfl rfl rfl rfl (by rw[(eF c17)]; rfl)) rfl ?_;refine OpsQ.no (Want.bool rfl rfl rfl rfl (by rw[(eF c17)]; rfl)) rfl ?_;refine OpsQ.no (Want.bool rfl rfl rfl rfl (by rw[(eF c17)]; rfl)) rfl ?_;refine OpsQ.no (Want.bool rfl rfl rfl rfl (by rw[(eF c17)]; rfl)) rfl ?_;refine OpsQ.no (Want.bool rfl rfl rfl rfl (by rw[(eF c17)]; rfl)) rfl ?_;refine OpsQ.no (Want.bool rfl rfl rfl rfl (by rw[(eF c17)]; rfl)) rfl ?_;refine OpsQ.no (Want.bool rfl rfl rfl rfl (by rw[(eF c17)]; rfl)) rfl ?_;refine OpsQ.no (Want.bool rfl rfl rfl rfl (by rw[(eF c17)]; rfl)) rfl ?_;refine OpsQ.yes (Want.plain rfl) rfl (OpR.pickF rfl (eF c17) rfl) ?_;exact OpsQ.nil
 obtain⟨x18,hx18,ht15⟩:=bS ht15;obtain⟨x19,hx19,ht15⟩:=bS ht15;obtain⟨x20,hx20,ht15⟩:=bS ht15;refine T.drawQ drawsX [dN s4.2.1,dN (w64 (s4.2.1+1)),.sl 3 (List.map e_row_Row a0),dN (a0.length:Int),dT (decide ((w64 (s4.2.1+1))<(a0.length:Int))),dT (decide ((w64 (s4.2.1+1))<(a0.length:Int))),.fn (.func 170) [] [dP b0,dP b1],.sl 3 (List.map e_row_Row a0),dN s4.2.1,.nod [.sl 5 (List.map e_cell_Cell x18.fCells),dN x18.fEnd,dT x18.fHidden],.agg [.sl 5 (List.map e_cell_Cell x18.fCells),dN x18.fEnd,dT x18.fHidden],.sl 3 (List.map e_row_Row a0),dN s4.2.1,dN (w64 (s4.2.1+1)),.nod [.sl 5 (List.map e_cell_Cell x19.fCells),dN x19.fEnd,dT x19.fHidden],.agg [.sl 5 (List.map e_cell_Cell x19.fCells),dN x19.fEnd,dT x19.fHidden],dN x20,dT (decide (x20≤0)),dT (decide (x20≤0))] [0,1,4,5,6,7,9,10,31] (by decide +kernel) rfl ?_ rfl ?_;rotate_left
 ·obtain rfl:=osi ht15;exact⟨_,Gst.only [0,1,4,5,6,7,9,10,31] rfl,rfl⟩
 iterate 3 refine aB rfl rfl rfl ?_
 refine OpsQ.yes (Want.plain rfl) rfl (OpR.cast (OpR.pure rfl) (intE (lenM _ _))) ?_;iterate 2 refine aB rfl rfl rfl ?_
 refine OpsQ.yes (Want.bool rfl rfl rfl rfl (by rw[(eT c17)]; rfl)) rfl (OpR.pure rfl) ?_;refine OpsQ.yes (Want.bool rfl rfl rfl rfl (by rw[(eT c17)]; rfl)) rfl (OpR.pure rfl) ?_;refine OpsQ.yes (Want.bool rfl rfl rfl rfl (by rw[(eT c17)]; rfl)) rfl (OpR.pure rfl) ?_;refine OpsQ.yes (Want.bool rfl rfl rfl rfl (by rw[(eT c17)]; rfl)) rfl (OpR.indexM e_row_Row hx18 rfl rfl rfl rfl rfl) ?_;refine OpsQ.yes (Want.bool rfl rfl rfl rfl (by rw[(eT c17)]; rfl)) rfl (OpR.pure rfl) ?_;refine OpsQ.yes (Want.bool rfl rfl rfl rfl (by rw[(eT c17)]; rfl)) rfl (OpR.pure rfl) ?_;refine OpsQ.yes (Want.bool rfl rfl rfl rfl (by rw[(eT c17)]; rfl)) rfl (OpR.pure rfl) ?_;refine OpsQ.yes (Want.bool rfl rfl rfl rfl (by rw[(eT c17)]; rfl)) rfl (OpR.pure rfl) ?_;refine OpsQ.yes (Want.bool rfl rfl rfl rfl (by rw[(eT c17)]; rfl)) rfl (OpR.indexM e_row_Row hx19 rfl rfl rfl rfl rfl) ?_;refine OpsQ.yes (Want.bool rfl rfl rfl rfl (by rw[(eT c17)]; rfl)) rfl (OpR.pure rfl) ?_;refine OpsQ.yes (Want.bool rfl rfl rfl rfl (by rw[(eT c17)]; rfl)) rfl (OpR.callV [0,1,2,3] rfl fn170 (order_standing_1_c hx20) rfl rfl rfl (fun _=>rfl)) ?_;refine OpsQ.yes (Want.bool rfl rfl rfl rfl (by rw[(eT c17)]; rfl)) rfl (OpR.pure rfl) ?_;refine OpsQ.yes (Want.plain rfl) rfl (OpR.pickT rfl (eT c17) rfl) ?_;exact OpsQ.nil
noncomputable def merge_count_row_Row.l1 (a0:List (List row_Row)) (s2:Int × Int):Option (Lp (Int × Int) Int):=
 if s2.2<(a0.length:Int) then
 bnd (idx a0 s2.2) fun x11=>
 some (Lp.next (w64 (s2.1+(x11.length:Int)),w64 (s2.2+1)))
else
 some (Lp.done s2.1)
noncomputable def merge_count_row_Row (a0:List (List row_Row)):Option Int:=
 bnd (loop (merge_count_row_Row.l1 a0) (0,0):Option Int) fun t1=>
 some t1
theorem merge_count_row_Row_c {a0:List (List row_Row)} {res:Int} (h0:merge_count_row_Row a0=some res):CallF X 216 [.sl 1 (List.map e_sl163 a0)] [] (fun x=>(dN res)) (fun x=>[]):=by
 unfold merge_count_row_Row at h0;refine CallF.mkG (X:=X) rfl Tryz.func216 rfl rfl Tryz.ntmps216 rfl rfl ?_;refine aS ?_;refine aA rfl rfl ?_;refine aN rfl ?_;refine aS ?_;refine aA rfl rfl ?_;refine aN rfl ?_;refine T.seq ?_;refine aS ?_;refine aA rfl rfl ?_;refine TL.op1 (OpR.cast (OpR.pure rfl) (intE (lenM _ _))) rfl ?_;refine aA rfl rfl ?_;refine aN rfl ?_;obtain⟨t1,ht1,h0⟩:=bS h0;refine T.cutC (fun S'=>S'=⟨[(3,(dN t1)),(2,(dN 0))],[],18⟩) (fun _ h=>h) ?_ ?_;rotate_left
 ·rintro _ rfl;show T X _ _ _;refine aS ?_;iterate 2 refine aA rfl rfl ?_
  refine aN rfl ?_;refine T.ret ?_;obtain rfl:=osi h0;exact rO [] [2] rfl undef (cT rfl ResL.nil) rfl rfl rfl rfl
 refine T.block ?_;obtain⟨n3,n8⟩:=loop_some ht1;refine T.loop (fun n S'=>∃ S'',Gst S' S''∧∃ s2:Int × Int,S''=⟨[(8,(dN s2.2)),(7,(dN (a0.length:Int))),(6,.sl 1 (List.map e_sl163 a0)),(3,(dN s2.1)),(2,(dN 0))],[],18⟩∧iter (merge_count_row_Row.l1 a0) n s2=some t1) n3 ?_ ?_
 ·exact⟨_,Gst.only [2,3,6,7,8] rfl,(0,0),rfl,n8⟩
 rintro n3 _ ⟨_,g,s2,rfl,i7⟩;refine T.ghost g ?_;obtain⟨m4,q5,rfl,q6,i7⟩:=iter_succ i7;unfold merge_count_row_Row.l1 at q6;refine aS ?_;refine aA rfl rfl ?_;refine aN rfl ?_;refine T.seq ?_;rcases ite_some q6 with ⟨c10,q6⟩|⟨c10,q6⟩;rotate_left
 ·refine T.condF rfl (eF c10) ?_;refine T.exit ?_;obtain rfl:=osi q6;obtain rfl:_=_:=i7;exact⟨_,Gst.only [2,3] rfl,rfl⟩
 refine T.condT rfl (eT c10) ?_;refine aK rfl ?_;refine T.seq ?_;refine T.block ?_;refine aS ?_;obtain⟨x11,hx11,q6⟩:=bS q6;refine TL.op1 (OpR.indexM e_sl163 hx11 rfl rfl rfl rfl rfl) rfl ?_;iterate 2 refine aA rfl rfl ?_
 refine aN rfl ?_;refine T.region ?_;iterate 2 refine aA rfl rfl ?_
 refine TL.op1 (OpR.cast (OpR.pure rfl) (intE (lenM _ _))) rfl ?_;iterate 2 refine aA rfl rfl ?_
 refine aN rfl ?_;refine T.region ?_;iterate 2 refine aA rfl rfl ?_
 refine TL.nil ?_;obtain rfl:=osi q6;exact⟨m4,Nat.lt_succ_self _,_,Gst.only [2,3,6,7,8] rfl,(w64 (s2.1+(x11.length:Int)),w64 (s2.2+1)),rfl,i7⟩
noncomputable def merge_runs_row_Row_Push_2 (a0:merge_run_damier_row_Row) (a1:List merge_run_damier_row_Row) (a2:List order_By) (a3:List UInt8):Option (List merge_run_damier_row_Row):=
 bnd (app 32 a1 [a0]) fun x2=>
 some x2
theorem merge_runs_row_Row_Push_2_c {a0:merge_run_damier_row_Row} {a1:List merge_run_damier_row_Row} {a2:List order_By} {a3:List UInt8} {b0:Nat} {v1:Value} {b2:Nat} {b3:Nat} {b4:Nat} {v5:Value} {res:(List merge_run_damier_row_Row)} (h0:merge_runs_row_Row_Push_2 a0 a1 a2 a3=some res):CallF X 300 [dP b0,.ifc 324 (.agg [.sl 3 (List.map e_row_Row a0.fRest),dN a0.fWhich])] [.var b0 [.val v1,.fn (.func 170) [] [dP b2,dP b3]] 321,.row v1 (List.map e_merge_run_damier_row_Row a1) 2 324,.var b2 [.sl 2 (List.map e_order_By a2)] 104,.var b3 [dP b4] 28,.var b4 [.val v5] 264,.row v5 (lB a3) 1 5] (fun x=>.tup []) (fun x=>[.var b0 [.val (vn x 0),.fn (.func 170) [] [dP b2,dP b3]] 321,.row (vn x 0) (List.map e_merge_run_damier_row_Row res) 2 324,.var b2 [.sl 2 (List.map e_order_By a2)] 104,.var b3 [dP b4] 28,.var b4 [.val v5] 264,.row v5 (lB a3) 1 5]):=by
 unfold merge_runs_row_Row_Push_2 at h0;refine CallF.mkG (X:=X) rfl Tryz.func300 rfl rfl Tryz.ntmps300 rfl rfl ?_;obtain⟨x2,hx2,h0⟩:=bS h0;refine T.drawS drawsX (fun env1=>[dP b0,dP b0,dP b0,dP b0,.val v1,.ifc 324 (.agg [.sl 3 (List.map e_row_Row a0.fRest),dN a0.fWhich]),.agg [.sl 3 (List.map e_row_Row a0.fRest),dN a0.fWhich],.sl 2 (List.map e_merge_run_damier_row_Row [a0]),.val (env1 8),dP b0,dP b0,.dead]) (fun D env1=>[(bif D 11 then .var b0 [.val (env1 8),.fn (.func 170) [] [dP b2,dP b3]] 321 else .var b0 [.val v1,.fn (.func 170) [] [dP b2,dP b3]] 321),(bif D 8 then .row (env1 8) (List.map e_merge_run_damier_row_Row x2) 2 324 else .row v1 (List.map e_merge_run_damier_row_Row a1) 2 324),.var b2 [.sl 2 (List.map e_order_By a2)] 104,.var b3 [dP b4] 28,.var b4 [.val v5] 264,.row v5 (lB a3) 1 5]) [0,0,2,6,14,0,32,96,254,511,1023,2047] [] _ (by decide +kernel) (by decide +kernel) (fun _=>rfl) (fun _=>rfl) ?_ (fun _=>rfl) (fun _=>rfl) ?_;rotate_left
 ·intro env1;obtain rfl:=osi h0;exact PostG.finP (ks:=[0,1,2,3,4,5]) (Gst.only [] rfl) (.tuple #[(env1 8)]) ResL.nil rfl rfl rfl rfl
 iterate 4 refine aC ?_
 refine OpsS.cons' true ?_ (fun _ _ _ _ _ _ _=>rfl) ?_
 ·intro D env1 hA;have e8:D 8=false:=hA.no 8 _ rfl rfl;have e11:D 11=false:=hA.no 11 _ rfl rfl;exact OpS.yp [(8,false),(11,false)] ⟨e8,e11,trivial⟩ (Want.plain rfl) (OpR.loadPtr 0 rfl rfl rfl rfl) (fun x=>rfl) (fun x=>rfl)
 refine aC ?_;refine oT (.agg [.sl 3 (List.map e_row_Row a0.fRest),dN a0.fWhich]) (fun _ _=>OpR.assert rfl rfl rfl) ?_;refine oT (.sl 2 (List.map e_merge_run_damier_row_Row [a0])) (fun _ _=>OpR.lit rfl rfl rfl rfl rfl rfl rfl) ?_;refine OpsS.cons' true ?_ (fun D hA env1 x j hj hD=>match j,hj,hD with|0,_,_=>rfl|1,_,_=>rfl|2,_,_=>rfl|3,_,_=>rfl|4,_,_=>rfl|5,_,_=>rfl|6,_,_=>rfl|7,_,_=>rfl|8,hj,_=>absurd rfl hj|9,_,_=>rfl|10,_,_=>rfl|11,_,_=>rfl|_+12,_,_=>rfl) ?_
 ·intro D env1 hA;have e11:D 11=false:=hA.no 11 _ rfl rfl;exact OpS.yp [(11,false),(8,false)] ⟨e11,hA.me,trivial⟩ (Want.plain rfl) (OpR.appendM (m:=[a0]) e_merge_run_damier_row_Row 1 hx2 rfl rfl rfl rfl rfl rfl rfl rfl rfl (fun _=>rfl)) (fun x=>rfl) (fun x=>rfl)
 iterate 2 refine aC ?_
 refine OpsS.cons' true ?_ (fun _ _ _ _ _ _ _=>rfl) ?_
 ·intro D env1 hA;have e8:D 8=true:=hA.yes 8 _ rfl rfl;exact OpS.yp [(8,true),(11,false)] ⟨e8,hA.me,trivial⟩ (Want.plain rfl) (OpR.store 0 rfl rfl rfl rfl rfl rfl rfl rfl) (fun x=>rfl) (fun x=>rfl)
 exact trivial
noncomputable def merge_runs_row_Row_Len (a0:List merge_run_damier_row_Row) (a1:List order_By) (a2:List UInt8):Option Int:=
 some (a0.length:Int)
theorem merge_runs_row_Row_Len_c {a0:List merge_run_damier_row_Row} {a1:List order_By} {a2:List UInt8} {b0:Nat} {v1:Value} {b2:Nat} {b3:Nat} {b4:Nat} {v5:Value} {res:Int} (h0:merge_runs_row_Row_Len a0 a1 a2=some res):CallF X 242 [dP b0] [.var b0 [.val v1,.fn (.func 170) [] [dP b2,dP b3]] 321,.row v1 (List.map e_merge_run_damier_row_Row a0) 2 324,.var b2 [.sl 2 (List.map e_order_By a1)] 104,.var b3 [dP b4] 28,.var b4 [.val v5] 264,.row v5 (lB a2) 1 5] (fun x=>(dN res)) (fun x=>[.var b0 [.val v1,.fn (.func 170) [] [dP b2,dP b3]] 321,.row v1 (List.map e_merge_run_damier_row_Row a0) 2 324,.var b2 [.sl 2 (List.map e_order_By a1)] 104,.var b3 [dP b4] 28,.var b4 [.val v5] 264,.row v5 (lB a2) 1 5]):=by
 unfold merge_runs_row_Row_Len at h0;refine CallF.mkG (X:=X) rfl Tryz.func242 rfl rfl Tryz.ntmps242 rfl rfl ?_;refine aS ?_;refine aA rfl rfl ?_;refine aN rfl ?_;refine aS ?_;iterate 3 refine aA rfl rfl ?_
 refine TL.op1 (OpR.loadPtr 0 rfl rfl rfl rfl) rfl ?_;refine TL.op1 (OpR.rowLenM e_merge_run_damier_row_Row 1 rfl rfl rfl rfl) rfl ?_;refine aA rfl rfl ?_;refine aN rfl ?_;refine T.ret ?_;obtain rfl:=osi h0;exact rO [0,1,2,3,4,5] [2] rfl undef (cT rfl ResL.nil) rfl rfl rfl rfl
noncomputable def merge_runs_row_Row_Less (a0:Int) (a1:Int) (a2:List merge_run_damier_row_Row) (a3:List order_By) (a4:List UInt8):Option Bool:=
 bnd (idx a2 a0) fun x2=>
 bnd (idx a2 a1) fun x3=>
 bnd (idx x2.fRest 0) fun x5=>
 bnd (idx x3.fRest 0) fun x6=>
 bnd (order_standing_1 x5 x6 a3 a4) fun x7=>
 if x7=0 then
 some (decide (x2.fWhich<x3.fWhich))
else
 some (decide (x7<0))
theorem merge_runs_row_Row_Less_c {a0:Int} {a1:Int} {a2:List merge_run_damier_row_Row} {a3:List order_By} {a4:List UInt8} {b0:Nat} {v1:Value} {b2:Nat} {b3:Nat} {b4:Nat} {v5:Value} {res:Bool} (h0:merge_runs_row_Row_Less a0 a1 a2 a3 a4=some res):CallF X 298 [dP b0,dN a0,dN a1] [.var b0 [.val v1,.fn (.func 170) [] [dP b2,dP b3]] 321,.row v1 (List.map e_merge_run_damier_row_Row a2) 2 324,.var b2 [.sl 2 (List.map e_order_By a3)] 104,.var b3 [dP b4] 28,.var b4 [.val v5] 264,.row v5 (lB a4) 1 5] (fun x=>(dT res)) (fun x=>[.var b0 [.val v1,.fn (.func 170) [] [dP b2,dP b3]] 321,.row v1 (List.map e_merge_run_damier_row_Row a2) 2 324,.var b2 [.sl 2 (List.map e_order_By a3)] 104,.var b3 [dP b4] 28,.var b4 [.val v5] 264,.row v5 (lB a4) 1 5]):=by
 unfold merge_runs_row_Row_Less at h0;refine CallF.mkG (X:=X) rfl Tryz.func298 rfl rfl Tryz.ntmps298 rfl rfl ?_;refine aS ?_;refine aA rfl rfl ?_;refine aN rfl ?_;refine T.seq ?_;obtain⟨x2,hx2,h0⟩:=bS h0;obtain⟨x3,hx3,h0⟩:=bS h0;refine T.drawS drawsX (fun env1=>[dP b0,dP b0,dP b0,.val v1,dN a0,.val (.pointer (some ⟨blk v1,a0.toNat*2,none⟩)),.agg [.sl 3 (List.map e_row_Row x2.fRest),dN x2.fWhich],dP b0,dP b0,dP b0,.val v1,dN a1,.val (.pointer (some ⟨blk v1,a1.toNat*2,none⟩)),.agg [.sl 3 (List.map e_row_Row x3.fRest),dN x3.fWhich],dP (blk (env1 14)),dP (blk (env1 15)),.dead,.dead]) (fun D env1=>[.var b0 [.val v1,.fn (.func 170) [] [dP b2,dP b3]] 321,.row v1 (List.map e_merge_run_damier_row_Row a2) 2 324,.var b2 [.sl 2 (List.map e_order_By a3)] 104,.var b3 [dP b4] 28,.var b4 [.val v5] 264,.row v5 (lB a4) 1 5]++(bif D 14 then [(bif D 16 then .var (blk (env1 14)) [.sl 3 (List.map e_row_Row x2.fRest),dN x2.fWhich] 324 else .var (blk (env1 14)) [.val (.slice none 0 0),dN 0] 324)] else [])++(bif D 15 then [(bif D 17 then .var (blk (env1 15)) [.sl 3 (List.map e_row_Row x3.fRest),dN x3.fWhich] 324 else .var (blk (env1 15)) [.val (.slice none 0 0),dN 0] 324)] else [])) [0,1,3,7,0,31,63,0,128,384,896,0,3968,8064,0,0,49279,131071] [0,6,7,8] _ (by decide +kernel) (by decide +kernel) (fun _=>rfl) (fun _=>rfl) ?_ (fun _=>rfl) (fun _=>rfl) ?_;rotate_left
 ·intro env1;show T X _ _ _;refine T.seq ?_;refine T.seq ?_;obtain⟨x5,hx5,h0⟩:=bS h0;obtain⟨x6,hx6,h0⟩:=bS h0;obtain⟨x7,hx7,h0⟩:=bS h0;refine T.drawQ drawsX [dP b0,dP b0,.val (.pointer (some ⟨b0,1,none⟩)),.fn (.func 170) [] [dP b2,dP b3],dP (blk (env1 14)),.sl 3 (List.map e_row_Row x2.fRest),.nod [.sl 5 (List.map e_cell_Cell x5.fCells),dN x5.fEnd,dT x5.fHidden],.agg [.sl 5 (List.map e_cell_Cell x5.fCells),dN x5.fEnd,dT x5.fHidden],dP (blk (env1 15)),.sl 3 (List.map e_row_Row x3.fRest),.nod [.sl 5 (List.map e_cell_Cell x6.fCells),dN x6.fEnd,dT x6.fHidden],.agg [.sl 5 (List.map e_cell_Cell x6.fCells),dN x6.fEnd,dT x6.fHidden],dN x7,dN x7] [6,7,8,9] (by decide +kernel) rfl ?_ rfl ?_
  ·iterate 3 refine aB rfl rfl rfl ?_
   refine OpsQ.yes (Want.plain rfl) rfl (OpR.loadPtr 0 rfl rfl rfl rfl) ?_;refine aB rfl rfl rfl ?_;refine OpsQ.yes (Want.plain rfl) rfl (OpR.loadPtr 6 rfl rfl rfl rfl) ?_;refine OpsQ.yes (Want.plain rfl) rfl (OpR.indexM e_row_Row hx5 rfl rfl rfl rfl rfl) ?_;iterate 2 refine aB rfl rfl rfl ?_
   refine OpsQ.yes (Want.plain rfl) rfl (OpR.loadPtr 7 rfl rfl rfl rfl) ?_;refine OpsQ.yes (Want.plain rfl) rfl (OpR.indexM e_row_Row hx6 rfl rfl rfl rfl rfl) ?_;refine aB rfl rfl rfl ?_;refine OpsQ.yes (Want.plain rfl) rfl (OpR.callV [2,3,4,5] rfl fn170 (order_standing_1_c hx7) rfl rfl rfl (fun _=>rfl)) ?_;refine aB rfl rfl rfl ?_;exact OpsQ.nil
  show T X _ _ _;refine aS ?_;iterate 2 refine aA rfl rfl ?_
  refine aN rfl ?_;rcases ite_some h0 with ⟨c8,h0⟩|⟨c8,h0⟩;rotate_left
  ·refine T.condT rfl (not_f (beq_eq_false_iff_ne.2 c8)) ?_;refine aS ?_;iterate 3 refine aA rfl rfl ?_
   refine aN rfl ?_;refine T.ret ?_;obtain rfl:=osi h0;exact rP [0,1,2,3,4,5] [6] [0,1,2,3,4,5] rfl rfl rfl undef (cT rfl ResL.nil) rfl rfl rfl rfl
  refine T.condF rfl (not_t (beq_iff_eq.2 c8)) ?_;refine aK rfl ?_;refine aS ?_;refine aA rfl rfl ?_;refine TL.op1 (OpR.loadPtr 6 rfl rfl rfl rfl) rfl ?_;refine aA rfl rfl ?_;refine TL.op1 (OpR.loadPtr 7 rfl rfl rfl rfl) rfl ?_;iterate 2 refine aA rfl rfl ?_
  refine aN rfl ?_;refine T.ret ?_;obtain rfl:=osi h0;exact rP [0,1,2,3,4,5] [6] [0,1,2,3,4,5] rfl rfl rfl undef (cT rfl ResL.nil) rfl rfl rfl rfl
 iterate 3 refine aC ?_
 refine oT (.val v1) (fun _ _=>OpR.loadPtr 0 rfl rfl rfl rfl) ?_;refine aC ?_;refine oT (.val (.pointer (some ⟨blk v1,a0.toNat*2,none⟩))) (fun _ _=>OpR.rowIndexM e_merge_run_damier_row_Row 1 hx2 rfl rfl rfl rfl rfl rfl rfl) ?_;refine oT (.agg [.sl 3 (List.map e_row_Row x2.fRest),dN x2.fWhich]) (fun _ _=>OpR.rowLoad0M (j:=a0) e_merge_run_damier_row_Row 1 hx2 rfl rfl rfl rfl) ?_;iterate 3 refine aC ?_
 refine oT (.val v1) (fun _ _=>OpR.loadPtr 0 rfl rfl rfl rfl) ?_;refine aC ?_;refine oT (.val (.pointer (some ⟨blk v1,a1.toNat*2,none⟩))) (fun _ _=>OpR.rowIndexM e_merge_run_damier_row_Row 1 hx3 rfl rfl rfl rfl rfl rfl rfl) ?_;refine oT (.agg [.sl 3 (List.map e_row_Row x3.fRest),dN x3.fWhich]) (fun _ _=>OpR.rowLoad0M (j:=a1) e_merge_run_damier_row_Row 1 hx3 rfl rfl rfl rfl) ?_;refine OpsS.cons' true ?_ (fun D hA env1 x j hj hD=>match j,hj,hD with|0,_,_=>rfl|1,_,_=>rfl|2,_,_=>rfl|3,_,_=>rfl|4,_,_=>rfl|5,_,_=>rfl|6,_,_=>rfl|7,_,_=>rfl|8,_,_=>rfl|9,_,_=>rfl|10,_,_=>rfl|11,_,_=>rfl|12,_,_=>rfl|13,_,_=>rfl|14,hj,_=>absurd rfl hj|15,_,_=>rfl|16,_,_=>rfl|17,_,_=>rfl|_+18,_,_=>rfl) ?_
 ·intro D env1 hA;have e16:D 16=false:=hA.no 16 _ rfl rfl;have e17:D 17=false:=hA.no 17 _ rfl rfl;rcases Bool.eq_false_or_eq_true (D 15) with e15|e15;rotate_left
  ·exact OpS.yp [(16,false),(17,false),(15,false),(14,false)] ⟨e16,e17,e15,hA.me,trivial⟩ (Want.plain rfl) (OpR.alloc rfl rfl (fun _=>rfl)) (fun x=>rfl) (fun x=>rfl)
  exact OpS.yp [(16,false),(17,false),(15,true),(14,false)] ⟨e16,e17,e15,hA.me,trivial⟩ (Want.plain rfl) (OpR.pick [0,1,2,3,4,5,7,6] (OpR.alloc rfl rfl (fun _=>rfl)) (fun _=>rfl) rfl) (fun x=>rfl) (fun x=>rfl)
 refine OpsS.cons' true ?_ (fun D hA env1 x j hj hD=>match j,hj,hD with|0,_,_=>rfl|1,_,_=>rfl|2,_,_=>rfl|3,_,_=>rfl|4,_,_=>rfl|5,_,_=>rfl|6,_,_=>rfl|7,_,_=>rfl|8,_,_=>rfl|9,_,_=>rfl|10,_,_=>rfl|11,_,_=>rfl|12,_,_=>rfl|13,_,_=>rfl|14,_,_=>rfl|15,hj,_=>absurd rfl hj|16,_,_=>rfl|17,_,_=>rfl|_+18,_,_=>rfl) ?_
 ·intro D env1 hA;have e16:D 16=false:=hA.no 16 _ rfl rfl;have e17:D 17=false:=hA.no 17 _ rfl rfl;rcases Bool.eq_false_or_eq_true (D 14) with e14|e14
  ·exact OpS.yp [(16,false),(17,false),(14,true),(15,false)] ⟨e16,e17,e14,hA.me,trivial⟩ (Want.plain rfl) (OpR.alloc rfl rfl (fun _=>rfl)) (fun x=>rfl) (fun x=>rfl)
  exact OpS.yp [(16,false),(17,false),(14,false),(15,false)] ⟨e16,e17,e14,hA.me,trivial⟩ (Want.plain rfl) (OpR.alloc rfl rfl (fun _=>rfl)) (fun x=>rfl) (fun x=>rfl)
 refine OpsS.cons' true ?_ (fun _ _ _ _ _ _ _=>rfl) ?_
 ·intro D env1 hA;have e14:D 14=true:=hA.yes 14 _ rfl rfl;have e15:D 15=true:=hA.yes 15 _ rfl rfl;have e17:D 17=false:=hA.no 17 _ rfl rfl;exact OpS.yp [(14,true),(15,true),(17,false),(16,false)] ⟨e14,e15,e17,hA.me,trivial⟩ (Want.plain rfl) (OpR.store 6 rfl rfl rfl rfl rfl rfl rfl rfl) (fun x=>rfl) (fun x=>rfl)
 refine OpsS.cons' true ?_ (fun _ _ _ _ _ _ _=>rfl) ?_
 ·intro D env1 hA;have e14:D 14=true:=hA.yes 14 _ rfl rfl;have e15:D 15=true:=hA.yes 15 _ rfl rfl;have e16:D 16=true:=hA.yes 16 _ rfl rfl;exact OpS.yp [(14,true),(15,true),(16,true),(17,false)] ⟨e14,e15,e16,hA.me,trivial⟩ (Want.plain rfl) (OpR.store 7 rfl rfl rfl rfl rfl rfl rfl rfl) (fun x=>rfl) (fun x=>rfl)
 exact trivial
noncomputable def merge_runs_row_Row_Swap (a0:Int) (a1:Int) (a2:List merge_run_damier_row_Row) (a3:List order_By) (a4:List UInt8):Option (List merge_run_damier_row_Row):=
 bnd (idx a2 a1) fun x2=>
 bnd (idx a2 a0) fun x3=>
 bnd (idx (a2.set a0.toNat x2) a1) fun x4=>
 some ((a2.set a0.toNat x2).set a1.toNat x3)
theorem merge_runs_row_Row_Swap_c {a0:Int} {a1:Int} {a2:List merge_run_damier_row_Row} {a3:List order_By} {a4:List UInt8} {b0:Nat} {v1:Value} {b2:Nat} {b3:Nat} {b4:Nat} {v5:Value} {res:(List merge_run_damier_row_Row)} (h0:merge_runs_row_Row_Swap a0 a1 a2 a3 a4=some res):CallF X 301 [dP b0,dN a0,dN a1] [.var b0 [.val v1,.fn (.func 170) [] [dP b2,dP b3]] 321,.row v1 (List.map e_merge_run_damier_row_Row a2) 2 324,.var b2 [.sl 2 (List.map e_order_By a3)] 104,.var b3 [dP b4] 28,.var b4 [.val v5] 264,.row v5 (lB a4) 1 5] (fun x=>.tup []) (fun x=>[.var b0 [.val v1,.fn (.func 170) [] [dP b2,dP b3]] 321,.row v1 (List.map e_merge_run_damier_row_Row res) 2 324,.var b2 [.sl 2 (List.map e_order_By a3)] 104,.var b3 [dP b4] 28,.var b4 [.val v5] 264,.row v5 (lB a4) 1 5]):=by
 unfold merge_runs_row_Row_Swap at h0;refine CallF.mkG (X:=X) rfl Tryz.func301 rfl rfl Tryz.ntmps301 rfl rfl ?_;obtain⟨x2,hx2,h0⟩:=bS h0;obtain⟨x3,hx3,h0⟩:=bS h0;obtain⟨x4,hx4,h0⟩:=bS h0;refine T.drawS drawsX (fun env1=>[dP b0,dP b0,dP b0,.val v1,dN a0,dP b0,dP b0,dP b0,.val v1,dN a1,dP b0,dP b0,dP b0,.val v1,dN a1,.val (.pointer (some ⟨blk v1,a1.toNat*2,none⟩)),.agg [.sl 3 (List.map e_row_Row x2.fRest),dN x2.fWhich],dP b0,dP b0,dP b0,.val v1,dN a0,.val (.pointer (some ⟨blk v1,a0.toNat*2,none⟩)),.agg [.sl 3 (List.map e_row_Row x3.fRest),dN x3.fWhich],.val (.pointer (some ⟨blk v1,a0.toNat*2,none⟩)),.dead,.val (.pointer (some ⟨blk v1,a1.toNat*2,none⟩)),.dead]) (fun D env1=>[.var b0 [.val v1,.fn (.func 170) [] [dP b2,dP b3]] 321,(bif D 27 then .row v1 (List.map e_merge_run_damier_row_Row ((a2.set a0.toNat x2).set a1.toNat x3)) 2 324 else bif D 25 then .row v1 (List.map e_merge_run_damier_row_Row (a2.set a0.toNat x2)) 2 324 else .row v1 (List.map e_merge_run_damier_row_Row a2) 2 324),.var b2 [.sl 2 (List.map e_order_By a3)] 104,.var b3 [dP b4] 28,.var b4 [.val v5] 264,.row v5 (lB a4) 1 5]) [0,1,3,7,0,0,32,96,224,0,0,1024,3072,7168,0,31744,64512,0,131072,393216,917504,0,4063232,8257536,16776703,33553919,67108863,134217727] [] _ (by decide +kernel) (by decide +kernel) (fun _=>rfl) (fun _=>rfl) ?_ (fun _=>rfl) (fun _=>rfl) ?_;rotate_left
 ·intro env1;obtain rfl:=osi h0;exact PostG.finP (ks:=[0,1,2,3,4,5]) (Gst.only [] rfl) undef ResL.nil rfl rfl rfl rfl
 iterate 3 refine aC ?_
 refine oT (.val v1) (fun _ _=>OpR.loadPtr 0 rfl rfl rfl rfl) ?_;iterate 4 refine aC ?_
 refine oT (.val v1) (fun _ _=>OpR.loadPtr 0 rfl rfl rfl rfl) ?_;iterate 4 refine aC ?_
 refine oT (.val v1) (fun _ _=>OpR.loadPtr 0 rfl rfl rfl rfl) ?_;refine aC ?_;refine OpsS.cons' true ?_ (fun _ _ _ _ _ _ _=>rfl) ?_
 ·intro D env1 hA;have e25:D 25=false:=hA.no 25 _ rfl rfl;have e27:D 27=false:=hA.no 27 _ rfl rfl;exact OpS.yp [(25,false),(27,false)] ⟨e25,e27,trivial⟩ (Want.plain rfl) (OpR.rowIndexM e_merge_run_damier_row_Row 1 hx2 rfl rfl rfl rfl rfl rfl rfl) (fun x=>rfl) (fun x=>rfl)
 refine OpsS.cons' true ?_ (fun _ _ _ _ _ _ _=>rfl) ?_
 ·intro D env1 hA;have e25:D 25=false:=hA.no 25 _ rfl rfl;have e27:D 27=false:=hA.no 27 _ rfl rfl;exact OpS.yp [(25,false),(27,false)] ⟨e25,e27,trivial⟩ (Want.plain rfl) (OpR.rowLoad0M (j:=a1) e_merge_run_damier_row_Row 1 hx2 rfl rfl rfl rfl) (fun x=>rfl) (fun x=>rfl)
 iterate 3 refine aC ?_
 refine oT (.val v1) (fun _ _=>OpR.loadPtr 0 rfl rfl rfl rfl) ?_;refine aC ?_;refine OpsS.cons' true ?_ (fun _ _ _ _ _ _ _=>rfl) ?_
 ·intro D env1 hA;have e25:D 25=false:=hA.no 25 _ rfl rfl;have e27:D 27=false:=hA.no 27 _ rfl rfl;exact OpS.yp [(25,false),(27,false)] ⟨e25,e27,trivial⟩ (Want.plain rfl) (OpR.rowIndexM e_merge_run_damier_row_Row 1 hx3 rfl rfl rfl rfl rfl rfl rfl) (fun x=>rfl) (fun x=>rfl)
 refine OpsS.cons' true ?_ (fun _ _ _ _ _ _ _=>rfl) ?_
 ·intro D env1 hA;have e25:D 25=false:=hA.no 25 _ rfl rfl;have e27:D 27=false:=hA.no 27 _ rfl rfl;exact OpS.yp [(25,false),(27,false)] ⟨e25,e27,trivial⟩ (Want.plain rfl) (OpR.rowLoad0M (j:=a0) e_merge_run_damier_row_Row 1 hx3 rfl rfl rfl rfl) (fun x=>rfl) (fun x=>rfl)
 refine OpsS.cons' true ?_ (fun _ _ _ _ _ _ _=>rfl) ?_
 ·intro D env1 hA;have e25:D 25=false:=hA.no 25 _ rfl rfl;have e27:D 27=false:=hA.no 27 _ rfl rfl;exact OpS.yp [(25,false),(27,false)] ⟨e25,e27,trivial⟩ (Want.plain rfl) (OpR.rowIndexM e_merge_run_damier_row_Row 1 hx3 rfl rfl rfl rfl rfl rfl rfl) (fun x=>rfl) (fun x=>rfl)
 refine OpsS.cons' true ?_ (fun _ _ _ _ _ _ _=>rfl) ?_
 ·intro D env1 hA;have e27:D 27=false:=hA.no 27 _ rfl rfl;exact OpS.yp [(27,false),(25,false)] ⟨e27,hA.me,trivial⟩ (Want.plain rfl) (OpR.rowStore0M (j:=a0) e_merge_run_damier_row_Row x2 1 hx3 rfl rfl rfl rfl rfl rfl rfl rfl rfl) (fun x=>rfl) (fun x=>rfl)
 refine OpsS.cons' true ?_ (fun _ _ _ _ _ _ _=>rfl) ?_
 ·intro D env1 hA;have e25:D 25=true:=hA.yes 25 _ rfl rfl;have e27:D 27=false:=hA.no 27 _ rfl rfl;exact OpS.yp [(25,true),(27,false)] ⟨e25,e27,trivial⟩ (Want.plain rfl) (OpR.rowIndexM e_merge_run_damier_row_Row 1 hx4 rfl rfl rfl rfl rfl rfl rfl) (fun x=>rfl) (fun x=>rfl)
 refine OpsS.cons' true ?_ (fun _ _ _ _ _ _ _=>rfl) ?_
 ·intro D env1 hA;have e25:D 25=true:=hA.yes 25 _ rfl rfl;exact OpS.yp [(25,true),(27,false)] ⟨e25,hA.me,trivial⟩ (Want.plain rfl) (OpR.rowStore0M (j:=a1) e_merge_run_damier_row_Row x3 1 hx4 rfl rfl rfl rfl rfl rfl rfl rfl rfl) (fun x=>rfl) (fun x=>rfl)
 exact trivial
noncomputable def container_heap_up_2.l1 (a2:List order_By) (a3:List UInt8) (s2:Int × (List merge_run_damier_row_Row)):Option (Lp (Int × (List merge_run_damier_row_Row)) (List merge_run_damier_row_Row)):=
 bnd (if (w64 (quo (w64 (s2.1-1)) 1))=s2.1 then
 some true
else
 bnd (merge_runs_row_Row_Less s2.1 (w64 (quo (w64 (s2.1-1)) 1)) s2.2 a2 a3) fun x12=>
 some (!x12):Option Bool) fun t10=>
 if t10=true then
 some (Lp.done s2.2)
else
 bnd (merge_runs_row_Row_Swap (w64 (quo (w64 (s2.1-1)) 1)) s2.1 s2.2 a2 a3) fun x14=>
 some (Lp.next (w64 (quo (w64 (s2.1-1)) 1),x14))
noncomputable def container_heap_up_2 (a0:Int) (a1:List merge_run_damier_row_Row) (a2:List order_By) (a3:List UInt8):Option (List merge_run_damier_row_Row):=
 bnd (loop (container_heap_up_2.l1 a2 a3) (a0,a1):Option (List merge_run_damier_row_Row)) fun t1=>
 some t1
theorem container_heap_up_2_c {a0:Int} {a1:List merge_run_damier_row_Row} {a2:List order_By} {a3:List UInt8} {b0:Nat} {v1:Value} {b2:Nat} {b3:Nat} {b4:Nat} {v5:Value} {res:(List merge_run_damier_row_Row)} (h0:container_heap_up_2 a0 a1 a2 a3=some res):CallF X 264 [.ifc 318 (dP b0),dN a0] [.var b0 [.val v1,.fn (.func 170) [] [dP b2,dP b3]] 321,.row v1 (List.map e_merge_run_damier_row_Row a1) 2 324,.var b2 [.sl 2 (List.map e_order_By a2)] 104,.var b3 [dP b4] 28,.var b4 [.val v5] 264,.row v5 (lB a3) 1 5] (fun x=>.tup []) (fun x=>[.var b0 [.val v1,.fn (.func 170) [] [dP b2,dP b3]] 321,.row v1 (List.map e_merge_run_damier_row_Row res) 2 324,.var b2 [.sl 2 (List.map e_order_By a2)] 104,.var b3 [dP b4] 28,.var b4 [.val v5] 264,.row v5 (lB a3) 1 5]):=by
 unfold container_heap_up_2 at h0;refine CallF.mkG (X:=X) rfl Tryz.func264 rfl rfl Tryz.ntmps264 rfl rfl ?_;obtain⟨t1,ht1,h0⟩:=bS h0;refine T.cutN (fun S'=>S'=⟨[],[.var b0 [.val v1,.fn (.func 170) [] [dP b2,dP b3]] 321,.row v1 (List.map e_merge_run_damier_row_Row t1) 2 324,.var b2 [.sl 2 (List.map e_order_By a2)] 104,.var b3 [dP b4] 28,.var b4 [.val v5] 264,.row v5 (lB a3) 1 5],23⟩) (fun _ _ g ⟨h,S',ds,g',r⟩=>⟨h,S',ds,Gst.trans g g',r⟩) ?_ ?_;rotate_left
 ·rintro _ rfl;obtain rfl:=osi h0;exact PostG.finP (ks:=[0,1,2,3,4,5]) (Gst.only [] rfl) undef ResL.nil rfl rfl rfl rfl
 refine T.block ?_;obtain⟨n3,n8⟩:=loop_some ht1;refine T.loop (fun n S'=>∃ S'',Gst S' S''∧∃ s2:Int × (List merge_run_damier_row_Row),S''=⟨[(1,(dN s2.1)),(0,.ifc 318 (dP b0))],[.var b0 [.val v1,.fn (.func 170) [] [dP b2,dP b3]] 321,.row v1 (List.map e_merge_run_damier_row_Row s2.2) 2 324,.var b2 [.sl 2 (List.map e_order_By a2)] 104,.var b3 [dP b4] 28,.var b4 [.val v5] 264,.row v5 (lB a3) 1 5],23⟩∧iter (container_heap_up_2.l1 a2 a3) n s2=some t1) n3 ?_ ?_
 ·exact⟨_,Gst.only [0,1] rfl,(a0,a1),rfl,n8⟩
 rintro n3 _ ⟨_,g,s2,rfl,i7⟩;refine T.ghost g ?_;obtain⟨m4,q5,rfl,q6,i7⟩:=iter_succ i7;unfold container_heap_up_2.l1 at q6;refine T.block ?_;refine aS ?_;iterate 4 refine aA rfl rfl ?_
 refine aN rfl ?_;refine T.seq ?_;refine T.seq ?_;obtain⟨t10,ht10,q6⟩:=bS q6;refine T.cutC (fun S'=>S'=⟨[(17,(dT t10)),(4,(dN (w64 (quo (w64 (s2.1-1)) 1)))),(1,(dN s2.1)),(0,.ifc 318 (dP b0))],[.var b0 [.val v1,.fn (.func 170) [] [dP b2,dP b3]] 321,.row v1 (List.map e_merge_run_damier_row_Row s2.2) 2 324,.var b2 [.sl 2 (List.map e_order_By a2)] 104,.var b3 [dP b4] 28,.var b4 [.val v5] 264,.row v5 (lB a3) 1 5],23⟩) (fun _ h=>h) ?_ ?_;rotate_left
 ·rintro _ rfl;show T X _ _ _;rcases ite_some q6 with ⟨c13,q6⟩|⟨c13,q6⟩
  ·refine T.condT rfl (c13) ?_;refine T.exit ?_;obtain rfl:=osi q6;obtain rfl:_=_:=i7;exact⟨_,Gst.only [] rfl,rfl⟩
  refine T.condF rfl (eq_false_of_ne_true c13) ?_;refine aK rfl ?_;refine aS ?_;iterate 3 refine aA rfl rfl ?_
  obtain⟨x14,hx14,q6⟩:=bS q6;refine TL.op1 (OpR.callI [0,1,2,3,4,5] rfl mt318_Swap fn301 (merge_runs_row_Row_Swap_c hx14) rfl rfl rfl (fun _=>rfl)) rfl ?_;refine aN rfl ?_;refine T.region ?_;iterate 2 refine aA rfl rfl ?_
  refine TL.nil ?_;obtain rfl:=osi q6;exact⟨m4,Nat.lt_succ_self _,_,Gst.only [0,1] rfl,(w64 (quo (w64 (s2.1-1)) 1),x14),rfl,i7⟩
 refine T.region ?_;iterate 4 refine aA rfl rfl ?_
 rcases ite_some ht10 with ⟨c11,ht10⟩|⟨c11,ht10⟩
 ·refine TL.off rfl rfl rfl rfl (beq_iff_eq.2 c11) rfl rfl ?_;refine TL.off rfl rfl rfl rfl (beq_iff_eq.2 c11) rfl rfl ?_;refine TL.off rfl rfl rfl rfl (beq_iff_eq.2 c11) rfl rfl ?_;refine TL.off rfl rfl rfl rfl (beq_iff_eq.2 c11) rfl rfl ?_;refine TL.off rfl rfl rfl rfl (beq_iff_eq.2 c11) rfl rfl ?_;refine TL.op1 (OpR.pickT rfl (beq_iff_eq.2 c11) rfl) rfl ?_;refine TL.nil ?_;obtain rfl:=osi ht10;exact⟨_,Gst.only [0,1,4,17] rfl,rfl⟩
 refine TL.on rfl rfl rfl rfl (beq_eq_false_iff_ne.2 c11) ?_;refine aA rfl rfl ?_;refine TL.on rfl rfl rfl rfl (beq_eq_false_iff_ne.2 c11) ?_;refine aA rfl rfl ?_;refine TL.on rfl rfl rfl rfl (beq_eq_false_iff_ne.2 c11) ?_;refine aA rfl rfl ?_;refine TL.on rfl rfl rfl rfl (beq_eq_false_iff_ne.2 c11) ?_;obtain⟨x12,hx12,ht10⟩:=bS ht10;refine TL.op1 (OpR.callI [0,1,2,3,4,5] rfl mt318_Less fn298 (merge_runs_row_Row_Less_c hx12) rfl rfl rfl (fun _=>rfl)) rfl ?_;refine TL.on rfl rfl rfl rfl (beq_eq_false_iff_ne.2 c11) ?_;refine aA rfl rfl ?_;refine TL.op1 (OpR.pickF rfl (beq_eq_false_iff_ne.2 c11) rfl) rfl ?_;refine TL.nil ?_;obtain rfl:=osi ht10;exact⟨_,Gst.only [0,1,4,17] rfl,rfl⟩
noncomputable def container_heap_Push_4 (a0:merge_run_damier_row_Row) (a1:List merge_run_damier_row_Row) (a2:List order_By) (a3:List UInt8):Option (List merge_run_damier_row_Row):=
 bnd (merge_runs_row_Row_Push_2 a0 a1 a2 a3) fun x1=>
 bnd (merge_runs_row_Row_Len x1 a2 a3) fun x3=>
 bnd (container_heap_up_2 (w64 (x3-1)) x1 a2 a3) fun x4=>
 some x4
theorem container_heap_Push_4_c {a0:merge_run_damier_row_Row} {a1:List merge_run_damier_row_Row} {a2:List order_By} {a3:List UInt8} {b0:Nat} {v1:Value} {b2:Nat} {b3:Nat} {b4:Nat} {v5:Value} {res:(List merge_run_damier_row_Row)} (h0:container_heap_Push_4 a0 a1 a2 a3=some res):CallF X 241 [.ifc 318 (dP b0),.ifc 324 (.agg [.sl 3 (List.map e_row_Row a0.fRest),dN a0.fWhich])] [.var b0 [.val v1,.fn (.func 170) [] [dP b2,dP b3]] 321,.row v1 (List.map e_merge_run_damier_row_Row a1) 2 324,.var b2 [.sl 2 (List.map e_order_By a2)] 104,.var b3 [dP b4] 28,.var b4 [.val v5] 264,.row v5 (lB a3) 1 5] (fun x=>.tup []) (fun x=>[.var b0 [.val (vn x 0),.fn (.func 170) [] [dP b2,dP b3]] 321,.row (vn x 0) (List.map e_merge_run_damier_row_Row res) 2 324,.var b2 [.sl 2 (List.map e_order_By a2)] 104,.var b3 [dP b4] 28,.var b4 [.val v5] 264,.row v5 (lB a3) 1 5]):=by
 unfold container_heap_Push_4 at h0;refine CallF.mkG (X:=X) rfl Tryz.func241 rfl rfl Tryz.ntmps241 rfl rfl ?_;refine aS ?_;iterate 2 refine aA rfl rfl ?_
 obtain⟨x1,hx1,h0⟩:=bS h0;refine TL.op (OpR.callI [0,1,2,3,4,5] rfl mt318_Push fn300 (merge_runs_row_Row_Push_2_c hx1) rfl rfl rfl (fun _=>rfl)) rfl (fun w2=>?_);refine aN rfl ?_;refine T.region ?_;iterate 2 refine aA rfl rfl ?_
 obtain⟨x3,hx3,h0⟩:=bS h0;refine TL.op1 (OpR.callI [0,1,2,3,4,5] rfl mt318_Len fn242 (merge_runs_row_Row_Len_c hx3) rfl rfl rfl (fun _=>rfl)) rfl ?_;refine aA rfl rfl ?_;obtain⟨x4,hx4,h0⟩:=bS h0;refine TL.op1 (OpR.call [0,1,2,3,4,5] fn264 (container_heap_up_2_c hx4) rfl rfl rfl (fun _=>rfl)) rfl ?_;refine TL.nil ?_;obtain rfl:=osi h0;exact PostG.finP (ks:=[0,1,2,3,4,5]) (Gst.only [] rfl) (.tuple #[(vn w2 0)]) ResL.nil rfl rfl rfl rfl
noncomputable def container_heap_down_2.l1 (a1:Int) (a3:List order_By) (a4:List UInt8) (s2:Int × (List merge_run_damier_row_Row)):Option (Lp (Int × (List merge_run_damier_row_Row)) (Int × (List merge_run_damier_row_Row))):=
 bnd (if (w64 ((w64 (2*s2.1))+1))≥a1 then
 some true
else
 some (decide ((w64 ((w64 (2*s2.1))+1))<0)):Option Bool) fun t10=>
 if t10=true then
 some (Lp.done (s2.1,s2.2))
else
 bnd (if (w64 ((w64 ((w64 (2*s2.1))+1))+1))<a1 then
 bnd (merge_runs_row_Row_Less (w64 ((w64 ((w64 (2*s2.1))+1))+1)) (w64 ((w64 (2*s2.1))+1)) s2.2 a3 a4) fun x15=>
 some x15
else
 some false:Option Bool) fun t13=>
 bnd (if t13=true then
 some (w64 ((w64 ((w64 (2*s2.1))+1))+1))
else
 some (w64 ((w64 (2*s2.1))+1)):Option Int) fun t16=>
 bnd (merge_runs_row_Row_Less t16 s2.1 s2.2 a3 a4) fun x18=>
 if x18=true then
 bnd (merge_runs_row_Row_Swap s2.1 t16 s2.2 a3 a4) fun x20=>
 some (Lp.next (t16,x20))
else
 some (Lp.done (s2.1,s2.2))
noncomputable def container_heap_down_2 (a0:Int) (a1:Int) (a2:List merge_run_damier_row_Row) (a3:List order_By) (a4:List UInt8):Option (Bool × (List merge_run_damier_row_Row)):=
 bnd (loop (container_heap_down_2.l1 a1 a3 a4) (a0,a2):Option (Int × (List merge_run_damier_row_Row))) fun t1=>
 some (decide (t1.1>a0),t1.2)
theorem container_heap_down_2_c {a0:Int} {a1:Int} {a2:List merge_run_damier_row_Row} {a3:List order_By} {a4:List UInt8} {b0:Nat} {v1:Value} {b2:Nat} {b3:Nat} {b4:Nat} {v5:Value} {res:Bool × (List merge_run_damier_row_Row)} (h0:container_heap_down_2 a0 a1 a2 a3 a4=some res):CallF X 265 [.ifc 318 (dP b0),dN a0,dN a1] [.var b0 [.val v1,.fn (.func 170) [] [dP b2,dP b3]] 321,.row v1 (List.map e_merge_run_damier_row_Row a2) 2 324,.var b2 [.sl 2 (List.map e_order_By a3)] 104,.var b3 [dP b4] 28,.var b4 [.val v5] 264,.row v5 (lB a4) 1 5] (fun x=>(dT res.1)) (fun x=>[.var b0 [.val v1,.fn (.func 170) [] [dP b2,dP b3]] 321,.row v1 (List.map e_merge_run_damier_row_Row res.2) 2 324,.var b2 [.sl 2 (List.map e_order_By a3)] 104,.var b3 [dP b4] 28,.var b4 [.val v5] 264,.row v5 (lB a4) 1 5]):=by
 unfold container_heap_down_2 at h0;refine CallF.mkG (X:=X) rfl Tryz.func265 rfl rfl Tryz.ntmps265 rfl rfl ?_;refine aS ?_;refine aA rfl rfl ?_;refine aN rfl ?_;refine aS ?_;iterate 2 refine aA rfl rfl ?_
 refine aN rfl ?_;refine T.seq ?_;obtain⟨t1,ht1,h0⟩:=bS h0;refine T.cutC (fun S'=>S'=⟨[(7,(dN t1.1)),(6,(dT false)),(1,(dN a0))],[.var b0 [.val v1,.fn (.func 170) [] [dP b2,dP b3]] 321,.row v1 (List.map e_merge_run_damier_row_Row t1.2) 2 324,.var b2 [.sl 2 (List.map e_order_By a3)] 104,.var b3 [dP b4] 28,.var b4 [.val v5] 264,.row v5 (lB a4) 1 5],48⟩) (fun _ h=>h) ?_ ?_;rotate_left
 ·rintro _ rfl;show T X _ _ _;refine aS ?_;iterate 4 refine aA rfl rfl ?_
  refine aN rfl ?_;refine T.ret ?_;obtain rfl:=osi h0;exact rO [0,1,2,3,4,5] [6] rfl undef (cT rfl ResL.nil) rfl rfl rfl rfl
 refine T.block ?_;obtain⟨n3,n8⟩:=loop_some ht1;refine T.loop (fun n S'=>∃ S'',Gst S' S''∧∃ s2:Int × (List merge_run_damier_row_Row),S''=⟨[(7,(dN s2.1)),(6,(dT false)),(2,(dN a1)),(1,(dN a0)),(0,.ifc 318 (dP b0))],[.var b0 [.val v1,.fn (.func 170) [] [dP b2,dP b3]] 321,.row v1 (List.map e_merge_run_damier_row_Row s2.2) 2 324,.var b2 [.sl 2 (List.map e_order_By a3)] 104,.var b3 [dP b4] 28,.var b4 [.val v5] 264,.row v5 (lB a4) 1 5],48⟩∧iter (container_heap_down_2.l1 a1 a3 a4) n s2=some t1) n3 ?_ ?_
 ·exact⟨_,Gst.only [0,1,2,6,7] rfl,(a0,a2),rfl,n8⟩
 rintro n3 _ ⟨_,g,s2,rfl,i7⟩;refine T.ghost g ?_;obtain⟨m4,q5,rfl,q6,i7⟩:=iter_succ i7;unfold container_heap_down_2.l1 at q6;refine T.block ?_;refine aS ?_;iterate 4 refine aA rfl rfl ?_
 refine aN rfl ?_;refine T.seq ?_;refine T.seq ?_;obtain⟨t10,ht10,q6⟩:=bS q6;refine T.cutC (fun S'=>S'=⟨[(21,(dT t10)),(8,(dN (w64 ((w64 (2*s2.1))+1)))),(7,(dN s2.1)),(6,(dT false)),(2,(dN a1)),(1,(dN a0)),(0,.ifc 318 (dP b0))],[.var b0 [.val v1,.fn (.func 170) [] [dP b2,dP b3]] 321,.row v1 (List.map e_merge_run_damier_row_Row s2.2) 2 324,.var b2 [.sl 2 (List.map e_order_By a3)] 104,.var b3 [dP b4] 28,.var b4 [.val v5] 264,.row v5 (lB a4) 1 5],48⟩) (fun _ h=>h) ?_ ?_
 ·refine T.region ?_;iterate 4 refine aA rfl rfl ?_
  rcases ite_some ht10 with ⟨c11,ht10⟩|⟨c11,ht10⟩
  ·refine TL.off rfl rfl rfl rfl (eT c11) rfl rfl ?_;refine TL.off rfl rfl rfl rfl (eT c11) rfl rfl ?_;refine TL.op1 (OpR.pickT rfl (eT c11) rfl) rfl ?_;refine TL.nil ?_;obtain rfl:=osi ht10;exact⟨_,Gst.only [0,1,2,6,7,8,21] rfl,rfl⟩
  refine TL.on rfl rfl rfl rfl (eF c11) ?_;refine aA rfl rfl ?_;refine TL.on rfl rfl rfl rfl (eF c11) ?_;refine aA rfl rfl ?_;refine TL.op1 (OpR.pickF rfl (eF c11) rfl) rfl ?_;refine TL.nil ?_;obtain rfl:=osi ht10;exact⟨_,Gst.only [0,1,2,6,7,8,21] rfl,rfl⟩
 rintro _ rfl;show T X _ _ _;rcases ite_some q6 with ⟨c12,q6⟩|⟨c12,q6⟩
 ·refine T.condT rfl (c12) ?_;refine T.exit ?_;obtain rfl:=osi q6;obtain rfl:_=_:=i7;exact⟨_,Gst.only [1,6,7] rfl,rfl⟩
 refine T.condF rfl (eq_false_of_ne_true c12) ?_;refine aK rfl ?_;refine aS ?_;iterate 2 refine aA rfl rfl ?_
 refine aN rfl ?_;refine T.seq ?_;refine aS ?_;iterate 3 refine aA rfl rfl ?_
 refine aN rfl ?_;refine T.seq ?_;obtain⟨t13,ht13,q6⟩:=bS q6;refine T.cutC (fun S'=>S'=⟨[(33,(dT t13)),(10,(dN (w64 ((w64 ((w64 (2*s2.1))+1))+1)))),(9,(dN (w64 ((w64 (2*s2.1))+1)))),(7,(dN s2.1)),(6,(dT false)),(2,(dN a1)),(1,(dN a0)),(0,.ifc 318 (dP b0))],[.var b0 [.val v1,.fn (.func 170) [] [dP b2,dP b3]] 321,.row v1 (List.map e_merge_run_damier_row_Row s2.2) 2 324,.var b2 [.sl 2 (List.map e_order_By a3)] 104,.var b3 [dP b4] 28,.var b4 [.val v5] 264,.row v5 (lB a4) 1 5],48⟩) (fun _ h=>h) ?_ ?_
 ·refine T.region ?_;iterate 4 refine aA rfl rfl ?_
  rcases ite_some ht13 with ⟨c14,ht13⟩|⟨c14,ht13⟩;rotate_left
  ·refine TL.off rfl rfl rfl rfl (eF c14) rfl rfl ?_;refine TL.off rfl rfl rfl rfl (eF c14) rfl rfl ?_;refine TL.off rfl rfl rfl rfl (eF c14) rfl rfl ?_;refine TL.off rfl rfl rfl rfl (eF c14) rfl rfl ?_;refine TL.op1 (OpR.pickF rfl (eF c14) rfl) rfl ?_;refine TL.nil ?_;obtain rfl:=osi ht13;exact⟨_,Gst.only [0,1,2,6,7,9,10,33] rfl,rfl⟩
  refine TL.on rfl rfl rfl rfl (eT c14) ?_;refine aA rfl rfl ?_;refine TL.on rfl rfl rfl rfl (eT c14) ?_;refine aA rfl rfl ?_;refine TL.on rfl rfl rfl rfl (eT c14) ?_;refine aA rfl rfl ?_;refine TL.on rfl rfl rfl rfl (eT c14) ?_;obtain⟨x15,hx15,ht13⟩:=bS ht13;refine TL.op1 (OpR.callI [0,1,2,3,4,5] rfl mt318_Less fn298 (merge_runs_row_Row_Less_c hx15) rfl rfl rfl (fun _=>rfl)) rfl ?_;refine TL.op1 (OpR.pickT rfl (eT c14) rfl) rfl ?_;refine TL.nil ?_;obtain rfl:=osi ht13;exact⟨_,Gst.only [0,1,2,6,7,9,10,33] rfl,rfl⟩
 rintro _ rfl;show T X _ _ _;obtain⟨t16,ht16,q6⟩:=bS q6;refine T.cutC (fun S'=>S'=⟨[(9,(dN t16)),(7,(dN s2.1)),(6,(dT false)),(2,(dN a1)),(1,(dN a0)),(0,.ifc 318 (dP b0))],[.var b0 [.val v1,.fn (.func 170) [] [dP b2,dP b3]] 321,.row v1 (List.map e_merge_run_damier_row_Row s2.2) 2 324,.var b2 [.sl 2 (List.map e_order_By a3)] 104,.var b3 [dP b4] 28,.var b4 [.val v5] 264,.row v5 (lB a4) 1 5],48⟩) (fun _ h=>h) ?_ ?_
 ·rcases ite_some ht16 with ⟨c17,ht16⟩|⟨c17,ht16⟩;rotate_left
  ·refine T.condF rfl (eq_false_of_ne_true c17) ?_;refine T.skip ?_;obtain rfl:=osi ht16;exact⟨_,Gst.only [0,1,2,6,7,9] rfl,rfl⟩
  refine T.condT rfl (c17) ?_;refine T.region ?_;iterate 2 refine aA rfl rfl ?_
  refine TL.nil ?_;obtain rfl:=osi ht16;exact⟨_,Gst.only [0,1,2,6,7,9] rfl,rfl⟩
 rintro _ rfl;show T X _ _ _;refine T.seq ?_;refine aS ?_;iterate 3 refine aA rfl rfl ?_
 obtain⟨x18,hx18,q6⟩:=bS q6;refine TL.op1 (OpR.callI [0,1,2,3,4,5] rfl mt318_Less fn298 (merge_runs_row_Row_Less_c hx18) rfl rfl rfl (fun _=>rfl)) rfl ?_;refine aA rfl rfl ?_;refine aN rfl ?_;rcases ite_some q6 with ⟨c19,q6⟩|⟨c19,q6⟩;rotate_left
 ·refine T.condT rfl (not_f (eq_false_of_ne_true c19)) ?_;refine T.exit ?_;obtain rfl:=osi q6;obtain rfl:_=_:=i7;exact⟨_,Gst.only [1,6,7] rfl,rfl⟩
 refine T.condF rfl (not_t (c19)) ?_;refine aK rfl ?_;refine aS ?_;iterate 3 refine aA rfl rfl ?_
 obtain⟨x20,hx20,q6⟩:=bS q6;refine TL.op1 (OpR.callI [0,1,2,3,4,5] rfl mt318_Swap fn301 (merge_runs_row_Row_Swap_c hx20) rfl rfl rfl (fun _=>rfl)) rfl ?_;refine aN rfl ?_;refine T.region ?_;iterate 2 refine aA rfl rfl ?_
 refine TL.nil ?_;obtain rfl:=osi q6;exact⟨m4,Nat.lt_succ_self _,_,Gst.only [0,1,2,6,7] rfl,(t16,x20),rfl,i7⟩
noncomputable def merge_runs_row_Row_Pop (a0:List merge_run_damier_row_Row) (a1:List order_By) (a2:List UInt8):Option (merge_run_damier_row_Row × (List merge_run_damier_row_Row)):=
 bnd (idx a0 (w64 ((a0.length:Int)-1))) fun x1=>
 bnd (cut a0 0 (w64 ((a0.length:Int)-1))) fun x3=>
 some (x1,x3)
theorem merge_runs_row_Row_Pop_c {a0:List merge_run_damier_row_Row} {a1:List order_By} {a2:List UInt8} {b0:Nat} {v1:Value} {b2:Nat} {b3:Nat} {b4:Nat} {v5:Value} {res:merge_run_damier_row_Row × (List merge_run_damier_row_Row)} (h0:merge_runs_row_Row_Pop a0 a1 a2=some res):CallF X 299 [dP b0] [.var b0 [.val v1,.fn (.func 170) [] [dP b2,dP b3]] 321,.row v1 (List.map e_merge_run_damier_row_Row a0) 2 324,.var b2 [.sl 2 (List.map e_order_By a1)] 104,.var b3 [dP b4] 28,.var b4 [.val v5] 264,.row v5 (lB a2) 1 5] (fun x=>.ifc 324 (.agg [.sl 3 (List.map e_row_Row res.1.fRest),dN res.1.fWhich])) (fun x=>[.var b0 [.val (vn x 0),.fn (.func 170) [] [dP b2,dP b3]] 321,.row (vn x 0) (List.map e_merge_run_damier_row_Row res.2) 2 324,.var b2 [.sl 2 (List.map e_order_By a1)] 104,.var b3 [dP b4] 28,.var b4 [.val v5] 264,.row v5 (lB a2) 1 5]):=by
 unfold merge_runs_row_Row_Pop at h0;refine CallF.mkG (X:=X) rfl Tryz.func299 rfl rfl Tryz.ntmps299 rfl rfl ?_;refine aS ?_;refine aA rfl rfl ?_;refine aN rfl ?_;refine aS ?_;iterate 3 refine aA rfl rfl ?_
 refine TL.op1 (OpR.loadPtr 0 rfl rfl rfl rfl) rfl ?_;refine TL.op1 (OpR.rowLenM e_merge_run_damier_row_Row 1 rfl rfl rfl rfl) rfl ?_;iterate 2 refine aA rfl rfl ?_
 refine aN rfl ?_;refine aS ?_;iterate 3 refine aA rfl rfl ?_
 refine TL.op1 (OpR.loadPtr 0 rfl rfl rfl rfl) rfl ?_;refine aA rfl rfl ?_;obtain⟨x1,hx1,h0⟩:=bS h0;refine TL.op1 (OpR.rowIndexM e_merge_run_damier_row_Row 1 hx1 rfl rfl rfl rfl rfl rfl rfl) rfl ?_;refine TL.op1 (OpR.rowLoad0M (j:=w64 ((a0.length:Int)-1)) e_merge_run_damier_row_Row 1 hx1 rfl rfl rfl rfl) rfl ?_;refine TL.op (OpR.alloc rfl rfl (fun _=>rfl)) rfl (fun p2=>?_);refine TL.op0 (OpR.store 6 rfl rfl rfl rfl rfl rfl rfl rfl) ?_;refine aN rfl ?_;refine aS ?_;iterate 4 refine aA rfl rfl ?_
 refine TL.op1 (OpR.loadPtr 0 rfl rfl rfl rfl) rfl ?_;refine aA rfl rfl ?_;obtain⟨x3,hx3,h0⟩:=bS h0;refine TL.op1 (OpR.sliceRowM e_merge_run_damier_row_Row 1 hx3 rfl rfl rfl rfl rfl rfl BdM.none (BdM.some rfl)) rfl ?_;iterate 2 refine aA rfl rfl ?_
 refine TL.op0 (OpR.store 0 rfl rfl rfl rfl rfl rfl rfl rfl) ?_;refine aN rfl ?_;refine T.ghost (Gst.truncM (ow:=[.var b0 [.val (vw v1 (0:Int).toNat (w64 ((a0.length:Int)-1):Int).toNat 2),.fn (.func 170) [] [dP b2,dP b3]] 321,.row v1 (List.map e_merge_run_damier_row_Row a0) 2 324,.var b2 [.sl 2 (List.map e_order_By a1)] 104,.var b3 [dP b4] 28,.var b4 [.val v5] 264,.row v5 (lB a2) 1 5,.var (blk p2) [.sl 3 (List.map e_row_Row x1.fRest),dN x1.fWhich] 324]) e_merge_run_damier_row_Row 1 hx3 rfl rfl) ?_;refine aS ?_;refine TL.op1 (OpR.loadPtr 6 rfl rfl rfl rfl) rfl ?_;refine TL.op1 (OpR.mkIfc rfl rfl rfl) rfl ?_;refine aA rfl rfl ?_;refine aN rfl ?_;refine T.ret ?_;obtain rfl:=osi h0;exact rP [0,1,2,3,4,5] [2] [0,1,2,3,4,5] rfl rfl rfl (.tuple #[(vw v1 (0:Int).toNat (w64 ((a0.length:Int)-1):Int).toNat 2)]) (cT rfl ResL.nil) rfl rfl rfl rfl
noncomputable def container_heap_Pop_2 (a0:List merge_run_damier_row_Row) (a1:List order_By) (a2:List UInt8):Option (merge_run_damier_row_Row × (List merge_run_damier_row_Row)):=
 bnd (merge_runs_row_Row_Len a0 a1 a2) fun x1=>
 bnd (merge_runs_row_Row_Swap 0 (w64 (x1-1)) a0 a1 a2) fun x2=>
 bnd (container_heap_down_2 0 (w64 (x1-1)) x2 a1 a2) fun x3=>
 bnd (merge_runs_row_Row_Pop x3.2 a1 a2) fun x4=>
 some (x4.1,x4.2)
theorem container_heap_Pop_2_c {a0:List merge_run_damier_row_Row} {a1:List order_By} {a2:List UInt8} {b0:Nat} {v1:Value} {b2:Nat} {b3:Nat} {b4:Nat} {v5:Value} {res:merge_run_damier_row_Row × (List merge_run_damier_row_Row)} (h0:container_heap_Pop_2 a0 a1 a2=some res):CallF X 243 [.ifc 318 (dP b0)] [.var b0 [.val v1,.fn (.func 170) [] [dP b2,dP b3]] 321,.row v1 (List.map e_merge_run_damier_row_Row a0) 2 324,.var b2 [.sl 2 (List.map e_order_By a1)] 104,.var b3 [dP b4] 28,.var b4 [.val v5] 264,.row v5 (lB a2) 1 5] (fun x=>.ifc 324 (.agg [.sl 3 (List.map e_row_Row res.1.fRest),dN res.1.fWhich])) (fun x=>[.var b0 [.val (vn x 0),.fn (.func 170) [] [dP b2,dP b3]] 321,.row (vn x 0) (List.map e_merge_run_damier_row_Row res.2) 2 324,.var b2 [.sl 2 (List.map e_order_By a1)] 104,.var b3 [dP b4] 28,.var b4 [.val v5] 264,.row v5 (lB a2) 1 5]):=by
 unfold container_heap_Pop_2 at h0;refine CallF.mkG (X:=X) rfl Tryz.func243 rfl rfl Tryz.ntmps243 rfl rfl ?_;refine aS ?_;refine aA rfl rfl ?_;refine aN rfl ?_;refine aS ?_;refine aA rfl rfl ?_;obtain⟨x1,hx1,h0⟩:=bS h0;refine TL.op1 (OpR.callI [0,1,2,3,4,5] rfl mt318_Len fn242 (merge_runs_row_Row_Len_c hx1) rfl rfl rfl (fun _=>rfl)) rfl ?_;iterate 2 refine aA rfl rfl ?_
 refine aN rfl ?_;refine aS ?_;iterate 2 refine aA rfl rfl ?_
 obtain⟨x2,hx2,h0⟩:=bS h0;refine TL.op1 (OpR.callI [0,1,2,3,4,5] rfl mt318_Swap fn301 (merge_runs_row_Row_Swap_c hx2) rfl rfl rfl (fun _=>rfl)) rfl ?_;refine aN rfl ?_;refine aS ?_;iterate 2 refine aA rfl rfl ?_
 obtain⟨x3,hx3,h0⟩:=bS h0;refine TL.op1 (OpR.call [0,1,2,3,4,5] fn265 (container_heap_down_2_c hx3) rfl rfl rfl (fun _=>rfl)) rfl ?_;refine aN rfl ?_;refine aS ?_;refine aA rfl rfl ?_;obtain⟨x4,hx4,h0⟩:=bS h0;refine TL.op (OpR.callI [0,1,2,3,4,5] rfl mt318_Pop fn299 (merge_runs_row_Row_Pop_c hx4) rfl rfl rfl (fun _=>rfl)) rfl (fun w5=>?_);refine aA rfl rfl ?_;refine aN rfl ?_;refine T.ret ?_;obtain rfl:=osi h0;exact rO [0,1,2,3,4,5] [2] rfl (.tuple #[(vn w5 0)]) (cT rfl ResL.nil) rfl rfl rfl rfl
noncomputable def container_heap_Fix_2 (a0:Int) (a1:List merge_run_damier_row_Row) (a2:List order_By) (a3:List UInt8):Option (List merge_run_damier_row_Row):=
 bnd (merge_runs_row_Row_Len a1 a2 a3) fun x1=>
 bnd (container_heap_down_2 a0 x1 a1 a2 a3) fun x2=>
 if x2.1=true then
 some x2.2
else
 bnd (container_heap_up_2 a0 x2.2 a2 a3) fun x4=>
 some x4
theorem container_heap_Fix_2_c {a0:Int} {a1:List merge_run_damier_row_Row} {a2:List order_By} {a3:List UInt8} {b0:Nat} {v1:Value} {b2:Nat} {b3:Nat} {b4:Nat} {v5:Value} {res:(List merge_run_damier_row_Row)} (h0:container_heap_Fix_2 a0 a1 a2 a3=some res):CallF X 244 [.ifc 318 (dP b0),dN a0] [.var b0 [.val v1,.fn (.func 170) [] [dP b2,dP b3]] 321,.row v1 (List.map e_merge_run_damier_row_Row a1) 2 324,.var b2 [.sl 2 (List.map e_order_By a2)] 104,.var b3 [dP b4] 28,.var b4 [.val v5] 264,.row v5 (lB a3) 1 5] (fun x=>.tup []) (fun x=>[.var b0 [.val v1,.fn (.func 170) [] [dP b2,dP b3]] 321,.row v1 (List.map e_merge_run_damier_row_Row res) 2 324,.var b2 [.sl 2 (List.map e_order_By a2)] 104,.var b3 [dP b4] 28,.var b4 [.val v5] 264,.row v5 (lB a3) 1 5]):=by
 unfold container_heap_Fix_2 at h0;refine CallF.mkG (X:=X) rfl Tryz.func244 rfl rfl Tryz.ntmps244 rfl rfl ?_;refine aS ?_;iterate 3 refine aA rfl rfl ?_
 obtain⟨x1,hx1,h0⟩:=bS h0;refine TL.op1 (OpR.callI [0,1,2,3,4,5] rfl mt318_Len fn242 (merge_runs_row_Row_Len_c hx1) rfl rfl rfl (fun _=>rfl)) rfl ?_;obtain⟨x2,hx2,h0⟩:=bS h0;refine TL.op1 (OpR.call [0,1,2,3,4,5] fn265 (container_heap_down_2_c hx2) rfl rfl rfl (fun _=>rfl)) rfl ?_;refine aA rfl rfl ?_;refine aN rfl ?_;rcases ite_some h0 with ⟨c3,h0⟩|⟨c3,h0⟩
 ·refine T.condF rfl (not_t (c3)) ?_;refine T.skip ?_;obtain rfl:=osi h0;exact PostG.finP (ks:=[0,1,2,3,4,5]) (Gst.only [] rfl) undef ResL.nil rfl rfl rfl rfl
 refine T.condT rfl (not_f (eq_false_of_ne_true c3)) ?_;refine T.region ?_;iterate 2 refine aA rfl rfl ?_
 obtain⟨x4,hx4,h0⟩:=bS h0;refine TL.op1 (OpR.call [0,1,2,3,4,5] fn264 (container_heap_up_2_c hx4) rfl rfl rfl (fun _=>rfl)) rfl ?_;refine TL.nil ?_;obtain rfl:=osi h0;exact PostG.finP (ks:=[0,1,2,3,4,5]) (Gst.only [] rfl) undef ResL.nil rfl rfl rfl rfl
noncomputable def merge_first_row_Row.l1 (a0:List (List row_Row)) (a2:List order_By) (a3:List UInt8) (s5:Int × (List merge_run_damier_row_Row)):Option (Lp (Int × (List merge_run_damier_row_Row)) (List merge_run_damier_row_Row)):=
 if s5.1<(a0.length:Int) then
 bnd (idx a0 s5.1) fun x14=>
 bnd (if (x14.length:Int)>0 then
 bnd (container_heap_Push_4 (⟨x14,s5.1⟩:merge_run_damier_row_Row) s5.2 a2 a3) fun x18=>
 some x18
else
 some s5.2:Option (List merge_run_damier_row_Row)) fun t15=>
 some (Lp.next (w64 (s5.1+1),t15))
else
 some (Lp.done s5.2)
noncomputable def merge_first_row_Row.l2 (a1:Int) (a2:List order_By) (a3:List UInt8) (s24:(List row_Row) × (List merge_run_damier_row_Row)):Option (Lp ((List row_Row) × (List merge_run_damier_row_Row)) (List row_Row)):=
 bnd (bnd (merge_runs_row_Row_Len s24.2 a2 a3) fun x33=>
 if x33>0 then
 some (decide ((s24.1.length:Int)<a1))
else
 some false:Option Bool) fun t32=>
 if t32=true then
 bnd (idx s24.2 0) fun x36=>
 bnd (idx x36.fRest 0) fun x37=>
 bnd (app 40 s24.1 [x37]) fun x38=>
 bnd (cut x36.fRest 1 (x36.fRest.length:Int)) fun x40=>
 bnd (idx (s24.2.set (0:Int).toNat (⟨x40,x36.fWhich⟩:merge_run_damier_row_Row)) 0) fun x41=>
 if (x41.fRest.length:Int)=0 then
 bnd (container_heap_Pop_2 (s24.2.set (0:Int).toNat (⟨x40,x36.fWhich⟩:merge_run_damier_row_Row)) a2 a3) fun x43=>
 some (Lp.next (x38,x43.2))
else
 bnd (container_heap_Fix_2 0 (s24.2.set (0:Int).toNat (⟨x40,x36.fWhich⟩:merge_run_damier_row_Row)) a2 a3) fun x45=>
 some (Lp.next (x38,x45))
else
 some (Lp.done s24.1)
noncomputable def merge_first_row_Row (a0:List (List row_Row)) (a1:Int) (a2:List order_By) (a3:List UInt8):Option (List row_Row):=
 bnd (loop (merge_first_row_Row.l1 a0 a2 a3) (0,[]):Option (List merge_run_damier_row_Row)) fun t2=>
 bnd (loop (merge_first_row_Row.l2 a1 a2 a3) ([],t2):Option (List row_Row)) fun t20=>
 some t20
theorem merge_first_row_Row_c {a0:List (List row_Row)} {a1:Int} {a2:List order_By} {a3:List UInt8} {b0:Nat} {b1:Nat} {b2:Nat} {v3:Value} {res:(List row_Row)} (h0:merge_first_row_Row a0 a1 a2 a3=some res):CallF X 215 [.fn (.func 170) [] [dP b0,dP b1],.sl 1 (List.map e_sl163 a0),dN a1] [.var b0 [.sl 2 (List.map e_order_By a2)] 104,.var b1 [dP b2] 28,.var b2 [.val v3] 264,.row v3 (lB a3) 1 5] (fun x=>.val (vn x 0)) (fun x=>[.var b0 [.sl 2 (List.map e_order_By a2)] 104,.var b1 [dP b2] 28,.var b2 [.val v3] 264,.row v3 (lB a3) 1 5,.row (vn x 0) (List.map e_row_Row res) 3 49]):=by
 unfold merge_first_row_Row at h0;refine CallF.mkG (X:=X) rfl Tryz.func215 rfl rfl Tryz.ntmps215 rfl rfl ?_;refine aS ?_;refine aA rfl rfl ?_;refine aN rfl ?_;refine aS ?_;refine aA rfl rfl ?_;refine TL.op1 (OpR.build rfl rfl rfl rfl rfl) rfl ?_;refine TL.op (OpR.boxVar rfl rfl (fun _=>rfl)) rfl (fun p1=>?_);refine aA rfl rfl ?_;refine aN rfl ?_;refine T.seq ?_;refine aS ?_;refine aA rfl rfl ?_;refine TL.op1 (OpR.cast (OpR.pure rfl) (intE (lenM _ _))) rfl ?_;refine aA rfl rfl ?_;refine aN rfl ?_;obtain⟨t2,ht2,h0⟩:=bS h0;refine T.cutC (fun S'=>∃ y3:Value,S'=⟨[(7,(dP (blk p1))),(6,.val (.slice none 0 0)),(2,(dN a1))],[.var b0 [.sl 2 (List.map e_order_By a2)] 104,.var b1 [dP b2] 28,.var b2 [.val v3] 264,.row v3 (lB a3) 1 5,.var (blk p1) [.val y3,.fn (.func 170) [] [dP b0,dP b1]] 321,.row y3 (List.map e_merge_run_damier_row_Row t2) 2 324],77⟩) (fun _ h=>h) ?_ ?_
 ·refine T.block ?_;obtain⟨n6,n11⟩:=loop_some ht2;refine T.loop (fun n S'=>∃ S'',Gst S' S''∧∃ y4:Value,∃ s5:Int × (List merge_run_damier_row_Row),S''=⟨[(17,(dN s5.1)),(16,(dN (a0.length:Int))),(15,.sl 1 (List.map e_sl163 a0)),(7,(dP (blk p1))),(6,.val (.slice none 0 0)),(2,(dN a1))],[.var b0 [.sl 2 (List.map e_order_By a2)] 104,.var b1 [dP b2] 28,.var b2 [.val v3] 264,.row v3 (lB a3) 1 5,.var (blk p1) [.val y4,.fn (.func 170) [] [dP b0,dP b1]] 321,.row y4 (List.map e_merge_run_damier_row_Row s5.2) 2 324],77⟩∧iter (merge_first_row_Row.l1 a0 a2 a3) n s5=some t2) n6 ?_ ?_
  ·exact⟨_,Gst.trans (Gst.only [2,6,7,15,16,17] rfl) (Gst.nilRow (ow:=[.var b0 [.sl 2 (List.map e_order_By a2)] 104,.var b1 [dP b2] 28,.var b2 [.val v3] 264,.row v3 (lB a3) 1 5,.var (blk p1) [.val (.slice none 0 0),.fn (.func 170) [] [dP b0,dP b1]] 321]) 2 324 rfl),(.slice none 0 0),(0,[]),rfl,n11⟩
  rintro n6 _ ⟨_,g,y4,s5,rfl,i10⟩;refine T.ghost g ?_;obtain⟨m7,q8,rfl,q9,i10⟩:=iter_succ i10;unfold merge_first_row_Row.l1 at q9;refine aS ?_;refine aA rfl rfl ?_;refine aN rfl ?_;refine T.seq ?_;rcases ite_some q9 with ⟨c13,q9⟩|⟨c13,q9⟩;rotate_left
  ·refine T.condF rfl (eF c13) ?_;refine T.exit ?_;obtain rfl:=osi q9;obtain rfl:_=_:=i10;exact⟨_,Gst.only [2,6,7] rfl,y4,rfl⟩
  refine T.condT rfl (eT c13) ?_;refine aK rfl ?_;refine T.seq ?_;refine T.block ?_;refine aS ?_;refine aA rfl rfl ?_;obtain⟨x14,hx14,q9⟩:=bS q9;refine TL.op1 (OpR.indexM e_sl163 hx14 rfl rfl rfl rfl rfl) rfl ?_;iterate 3 refine aA rfl rfl ?_
  refine aN rfl ?_;refine aS ?_;refine aA rfl rfl ?_;refine TL.op1 (OpR.cast (OpR.pure rfl) (intE (lenM _ _))) rfl ?_;refine aA rfl rfl ?_;refine aN rfl ?_;obtain⟨t15,ht15,q9⟩:=bS q9;refine T.cutC (fun S'=>∃ y16:Value,S'=⟨[(17,(dN s5.1)),(16,(dN (a0.length:Int))),(15,.sl 1 (List.map e_sl163 a0)),(7,(dP (blk p1))),(6,.val (.slice none 0 0)),(2,(dN a1))],[.var b0 [.sl 2 (List.map e_order_By a2)] 104,.var b1 [dP b2] 28,.var b2 [.val v3] 264,.row v3 (lB a3) 1 5,.var (blk p1) [.val y16,.fn (.func 170) [] [dP b0,dP b1]] 321,.row y16 (List.map e_merge_run_damier_row_Row t15) 2 324],77⟩) (fun _ h=>h) ?_ ?_;rotate_left
  ·rintro _ ⟨y16,rfl⟩;show T X _ _ _;refine T.region ?_;iterate 2 refine aA rfl rfl ?_
   refine TL.nil ?_;obtain rfl:=osi q9;exact⟨m7,Nat.lt_succ_self _,_,Gst.only [2,6,7,15,16,17] rfl,y16,(w64 (s5.1+1),t15),rfl,i10⟩
  rcases ite_some ht15 with ⟨c17,ht15⟩|⟨c17,ht15⟩;rotate_left
  ·refine T.condF rfl (eF c17) ?_;refine T.skip ?_;obtain rfl:=osi ht15;exact⟨_,Gst.only [2,6,7,15,16,17] rfl,y4,rfl⟩
  refine T.condT rfl (eT c17) ?_;refine T.region ?_;refine aA rfl rfl ?_;refine TL.op1 (OpR.mkIfc rfl rfl rfl) rfl ?_;iterate 2 refine aA rfl rfl ?_
  refine TL.op1 (OpR.build rfl rfl rfl rfl rfl) rfl ?_;refine TL.op1 (OpR.mkIfc rfl rfl rfl) rfl ?_;obtain⟨x18,hx18,ht15⟩:=bS ht15;refine TL.op (OpR.call [4,5,0,1,2,3] fn241 (container_heap_Push_4_c hx18) rfl rfl rfl (fun _=>rfl)) rfl (fun w19=>?_);refine TL.nil ?_;obtain rfl:=osi ht15;exact⟨_,Gst.only [2,6,7,15,16,17] rfl,(vn w19 0),rfl⟩
 rintro _ ⟨y3,rfl⟩;show T X _ _ _;refine aS ?_;refine aA rfl rfl ?_;refine aN rfl ?_;refine T.seq ?_;obtain⟨t20,ht20,h0⟩:=bS h0;refine T.cutC (fun S'=>∃ y21:Value,S'=⟨[(10,.val y21),(6,.val (.slice none 0 0))],[.var b0 [.sl 2 (List.map e_order_By a2)] 104,.var b1 [dP b2] 28,.var b2 [.val v3] 264,.row v3 (lB a3) 1 5,.row y21 (List.map e_row_Row t20) 3 49],77⟩) (fun _ h=>h) ?_ ?_;rotate_left
 ·rintro _ ⟨y21,rfl⟩;show T X _ _ _;refine aS ?_;iterate 2 refine aA rfl rfl ?_
  refine aN rfl ?_;refine T.ret ?_;obtain rfl:=osi h0;exact rO [0,1,2,3,4] [6] rfl (.tuple #[y21]) (cT rfl ResL.nil) rfl rfl rfl rfl
 refine T.block ?_;obtain⟨n25,n30⟩:=loop_some ht20;refine T.loop (fun n S'=>∃ S'',Gst S' S''∧∃ y22:Value,∃ y23:Value,∃ s24:(List row_Row) × (List merge_run_damier_row_Row),S''=⟨[(10,.val y22),(7,(dP (blk p1))),(6,.val (.slice none 0 0)),(2,(dN a1))],[.var b0 [.sl 2 (List.map e_order_By a2)] 104,.var b1 [dP b2] 28,.var b2 [.val v3] 264,.row v3 (lB a3) 1 5,.var (blk p1) [.val y23,.fn (.func 170) [] [dP b0,dP b1]] 321,.row y22 (List.map e_row_Row s24.1) 3 49,.row y23 (List.map e_merge_run_damier_row_Row s24.2) 2 324],77⟩∧iter (merge_first_row_Row.l2 a1 a2 a3) n s24=some t20) n25 ?_ ?_
 ·exact⟨_,Gst.trans (Gst.only [2,6,7,10] rfl) (Gst.trans (Gst.nilRow (ow:=[.var b0 [.sl 2 (List.map e_order_By a2)] 104,.var b1 [dP b2] 28,.var b2 [.val v3] 264,.row v3 (lB a3) 1 5,.var (blk p1) [.val y3,.fn (.func 170) [] [dP b0,dP b1]] 321,.row y3 (List.map e_merge_run_damier_row_Row t2) 2 324]) 3 49 rfl) (Gst.pick [0,1,2,3,4,6,5] rfl rfl)),(.slice none 0 0),y3,([],t2),rfl,n30⟩
 rintro n25 _ ⟨_,g,y22,y23,s24,rfl,i29⟩;refine T.ghost g ?_;obtain⟨m26,q27,rfl,q28,i29⟩:=iter_succ i29;unfold merge_first_row_Row.l2 at q28;refine T.seq ?_;refine T.seq ?_;obtain⟨t32,ht32,q28⟩:=bS q28;refine T.cutC (fun S'=>S'=⟨[(41,(dT t32)),(10,.val y22),(7,(dP (blk p1))),(6,.val (.slice none 0 0)),(2,(dN a1))],[.var b0 [.sl 2 (List.map e_order_By a2)] 104,.var b1 [dP b2] 28,.var b2 [.val v3] 264,.row v3 (lB a3) 1 5,.var (blk p1) [.val y23,.fn (.func 170) [] [dP b0,dP b1]] 321,.row y22 (List.map e_row_Row s24.1) 3 49,.row y23 (List.map e_merge_run_damier_row_Row s24.2) 2 324],77⟩) (fun _ h=>h) ?_ ?_
 ·refine T.region ?_;refine aA rfl rfl ?_;obtain⟨x33,hx33,ht32⟩:=bS ht32;refine TL.op1 (OpR.call [4,6,0,1,2,3] fn242 (merge_runs_row_Row_Len_c hx33) rfl rfl rfl (fun _=>rfl)) rfl ?_;iterate 2 refine aA rfl rfl ?_
  rcases ite_some ht32 with ⟨c34,ht32⟩|⟨c34,ht32⟩;rotate_left
  ·refine TL.off rfl rfl rfl rfl (eF c34) rfl rfl ?_;refine TL.off rfl rfl rfl rfl (eF c34) rfl rfl ?_;refine TL.off rfl rfl rfl rfl (eF c34) rfl rfl ?_;refine TL.off rfl rfl rfl rfl (eF c34) rfl rfl ?_;refine TL.op1 (OpR.pickF rfl (eF c34) rfl) rfl ?_;refine TL.nil ?_;obtain rfl:=osi ht32;exact⟨_,Gst.only [2,6,7,10,41] rfl,rfl⟩
  refine TL.on rfl rfl rfl rfl (eT c34) ?_;refine aA rfl rfl ?_;refine TL.on rfl rfl rfl rfl (eT c34) ?_;refine TL.op1 (OpR.rowLenM e_row_Row 5 rfl rfl rfl rfl) rfl ?_;refine TL.on rfl rfl rfl rfl (eT c34) ?_;refine aA rfl rfl ?_;refine TL.on rfl rfl rfl rfl (eT c34) ?_;refine aA rfl rfl ?_;refine TL.op1 (OpR.pickT rfl (eT c34) rfl) rfl ?_;refine TL.nil ?_;obtain rfl:=osi ht32;exact⟨_,Gst.only [2,6,7,10,41] rfl,rfl⟩
 rintro _ rfl;show T X _ _ _;rcases ite_some q28 with ⟨c35,q28⟩|⟨c35,q28⟩;rotate_left
 ·refine T.condF rfl (eq_false_of_ne_true c35) ?_;refine T.exit ?_;obtain rfl:=osi q28;obtain rfl:_=_:=i29;exact⟨_,gP [6,10] [0,1,2,3,5] rfl rfl rfl,y22,rfl⟩
 refine T.condT rfl (c35) ?_;refine aK rfl ?_;refine T.block ?_;refine aS ?_;iterate 3 refine aA rfl rfl ?_
 refine TL.op1 (OpR.loadPtr 4 rfl rfl rfl rfl) rfl ?_;obtain⟨x36,hx36,q28⟩:=bS q28;refine TL.op1 (OpR.rowIndexM e_merge_run_damier_row_Row 6 hx36 rfl rfl rfl rfl rfl rfl rfl) rfl ?_;refine aA rfl rfl ?_;refine aN rfl ?_;refine aS ?_;iterate 4 refine aA rfl rfl ?_
 refine TL.op1 (OpR.rowLoad0M (j:=0) e_merge_run_damier_row_Row 6 hx36 rfl rfl rfl rfl) rfl ?_;obtain⟨x37,hx37,q28⟩:=bS q28;refine TL.op1 (OpR.indexM e_row_Row hx37 rfl rfl rfl rfl rfl) rfl ?_;refine aA rfl rfl ?_;refine TL.op1 (OpR.lit rfl rfl rfl rfl rfl rfl rfl) rfl ?_;obtain⟨x38,hx38,q28⟩:=bS q28;refine TL.op (OpR.appendM (m:=[x37]) e_row_Row 5 hx38 rfl rfl rfl rfl rfl rfl rfl rfl rfl (fun _=>rfl)) rfl (fun v39=>?_);refine aA rfl rfl ?_;refine aN rfl ?_;refine T.seq ?_;refine aS ?_;iterate 4 refine aA rfl rfl ?_
 refine TL.op1 (OpR.rowLoad0M (j:=0) e_merge_run_damier_row_Row 6 hx36 rfl rfl rfl rfl) rfl ?_;obtain⟨x40,hx40,q28⟩:=bS q28;refine TL.op1 (OpR.sliceM (sz:=3) e_row_Row hx40 rfl rfl rfl rfl (BdM.some rfl) BdM.none rfl) rfl ?_;iterate 2 refine aA rfl rfl ?_
 refine TL.op0 (OpR.rowStore0M (j:=0) e_merge_run_damier_row_Row (⟨x40,x36.fWhich⟩:merge_run_damier_row_Row) 6 hx36 rfl rfl rfl rfl rfl rfl rfl rfl rfl) ?_;refine aN rfl ?_;refine aS ?_;iterate 3 refine aA rfl rfl ?_
 obtain⟨x41,hx41,q28⟩:=bS q28;refine TL.op1 (OpR.rowLoad0M (j:=0) e_merge_run_damier_row_Row 6 hx41 rfl rfl rfl rfl) rfl ?_;refine TL.op1 (OpR.cast (OpR.pure rfl) (intE (lenM _ _))) rfl ?_;refine aA rfl rfl ?_;refine aN rfl ?_;rcases ite_some q28 with ⟨c42,q28⟩|⟨c42,q28⟩;rotate_left
 ·refine T.condF rfl (beq_eq_false_iff_ne.2 c42) ?_;refine aK rfl ?_;refine T.region ?_;refine aA rfl rfl ?_;refine TL.op1 (OpR.mkIfc rfl rfl rfl) rfl ?_;obtain⟨x45,hx45,q28⟩:=bS q28;refine TL.op1 (OpR.call [4,6,0,1,2,3] fn244 (container_heap_Fix_2_c hx45) rfl rfl rfl (fun _=>rfl)) rfl ?_;refine TL.nil ?_;obtain rfl:=osi q28;exact⟨m26,Nat.lt_succ_self _,_,Gst.only [2,6,7,10] rfl,v39,y23,(x38,x45),rfl,i29⟩
 refine T.condT rfl (beq_iff_eq.2 c42) ?_;refine aS ?_;refine aA rfl rfl ?_;refine TL.op1 (OpR.mkIfc rfl rfl rfl) rfl ?_;obtain⟨x43,hx43,q28⟩:=bS q28;refine TL.op (OpR.call [4,6,0,1,2,3] fn243 (container_heap_Pop_2_c hx43) rfl rfl rfl (fun _=>rfl)) rfl (fun w44=>?_);refine aN rfl ?_;refine T.exit ?_;obtain rfl:=osi q28;exact⟨m26,Nat.lt_succ_self _,_,Gst.only [2,6,7,10] rfl,v39,(vn w44 0),(x38,x43.2),rfl,i29⟩
noncomputable def merge_Merge_row_Row (a0:List (List row_Row)) (a1:List order_By) (a2:List UInt8):Option (List row_Row):=
 bnd (merge_count_row_Row a0) fun x1=>
 bnd (merge_first_row_Row a0 x1 a1 a2) fun x2=>
 some x2
theorem merge_Merge_row_Row_c {a0:List (List row_Row)} {a1:List order_By} {a2:List UInt8} {b0:Nat} {b1:Nat} {b2:Nat} {v3:Value} {res:(List row_Row)} (h0:merge_Merge_row_Row a0 a1 a2=some res):CallF X 173 [.fn (.func 170) [] [dP b0,dP b1],.sl 1 (List.map e_sl163 a0)] [.var b0 [.sl 2 (List.map e_order_By a1)] 104,.var b1 [dP b2] 28,.var b2 [.val v3] 264,.row v3 (lB a2) 1 5] (fun x=>.val (vn x 0)) (fun x=>[.var b0 [.sl 2 (List.map e_order_By a1)] 104,.var b1 [dP b2] 28,.var b2 [.val v3] 264,.row v3 (lB a2) 1 5,.row (vn x 0) (List.map e_row_Row res) 3 49]):=by
 unfold merge_Merge_row_Row at h0;refine CallF.mkG (X:=X) rfl Tryz.func173 rfl rfl Tryz.ntmps173 rfl rfl ?_;refine aS ?_;refine aA rfl rfl ?_;refine aN rfl ?_;refine aS ?_;iterate 3 refine aA rfl rfl ?_
 obtain⟨x1,hx1,h0⟩:=bS h0;refine TL.op1 (OpR.call0 fn216 (merge_count_row_Row_c hx1) rfl) rfl ?_;obtain⟨x2,hx2,h0⟩:=bS h0;refine TL.op (OpR.call [0,1,2,3] fn215 (merge_first_row_Row_c hx2) rfl rfl rfl (fun _=>rfl)) rfl (fun w3=>?_);refine aA rfl rfl ?_;refine aN rfl ?_;refine T.ret ?_;obtain rfl:=osi h0;exact rO [0,1,2,3,4] [4] rfl (.tuple #[(vn w3 0)]) (cT rfl ResL.nil) rfl rfl rfl rfl
noncomputable def merge_Sort_row_Row (a0:List row_Row) (a1:List order_By) (a2:List UInt8):Option (List row_Row):=
 bnd (merge_Runs_row_Row a0 a1 a2) fun x1=>
 bnd (merge_Merge_row_Row x1 a1 a2) fun x2=>
 some x2
theorem merge_Sort_row_Row_c {a0:List row_Row} {a1:List order_By} {a2:List UInt8} {b0:Nat} {b1:Nat} {b2:Nat} {v3:Value} {res:(List row_Row)} (h0:merge_Sort_row_Row a0 a1 a2=some res):CallF X 106 [.sl 3 (List.map e_row_Row a0),.fn (.func 170) [] [dP b0,dP b1]] [.var b0 [.sl 2 (List.map e_order_By a1)] 104,.var b1 [dP b2] 28,.var b2 [.val v3] 264,.row v3 (lB a2) 1 5] (fun x=>.val (vn x 0)) (fun x=>[.var b0 [.sl 2 (List.map e_order_By a1)] 104,.var b1 [dP b2] 28,.var b2 [.val v3] 264,.row v3 (lB a2) 1 5,.row (vn x 0) (List.map e_row_Row res) 3 49]):=by
 unfold merge_Sort_row_Row at h0;refine CallF.mkG (X:=X) rfl Tryz.func106 rfl rfl Tryz.ntmps106 rfl rfl ?_;refine aS ?_;refine aA rfl rfl ?_;refine aN rfl ?_;refine aS ?_;iterate 3 refine aA rfl rfl ?_
 obtain⟨x1,hx1,h0⟩:=bS h0;refine TL.op1 (OpR.call [0,1,2,3] fn127 (merge_Runs_row_Row_c hx1) rfl rfl rfl (fun _=>rfl)) rfl ?_;obtain⟨x2,hx2,h0⟩:=bS h0;refine TL.op (OpR.call [0,1,2,3] fn173 (merge_Merge_row_Row_c hx2) rfl rfl rfl (fun _=>rfl)) rfl (fun w3=>?_);refine aA rfl rfl ?_;refine aN rfl ?_;refine T.ret ?_;obtain rfl:=osi h0;exact rO [0,1,2,3,4] [4] rfl (.tuple #[(vn w3 0)]) (cT rfl ResL.nil) rfl rfl rfl rfl
noncomputable def order_Kinds_1 (a0:row_Row) (a1:row_Row) (a2:List order_By) (a3:List UInt8):Option Bool:=
 bnd (order_standing_1 a0 a1 a2 a3) fun x1=>
 some (x1==0)
theorem order_Kinds_1_c {a0:row_Row} {a1:row_Row} {a2:List order_By} {a3:List UInt8} {b0:Nat} {b1:Nat} {b2:Nat} {b3:Nat} {v4:Value} {res:Bool} (h0:order_Kinds_1 a0 a1 a2 a3=some res):CallF X 108 [.agg [.sl 5 (List.map e_cell_Cell a0.fCells),dN a0.fEnd,dT a0.fHidden],.agg [.sl 5 (List.map e_cell_Cell a1.fCells),dN a1.fEnd,dT a1.fHidden],dP b0] [.var b0 [.fn (.func 170) [] [dP b1,dP b2]] 170,.var b1 [.sl 2 (List.map e_order_By a2)] 104,.var b2 [dP b3] 28,.var b3 [.val v4] 264,.row v4 (lB a3) 1 5] (fun x=>(dT res)) (fun x=>[.var b0 [.fn (.func 170) [] [dP b1,dP b2]] 170,.var b1 [.sl 2 (List.map e_order_By a2)] 104,.var b2 [dP b3] 28,.var b3 [.val v4] 264,.row v4 (lB a3) 1 5]):=by
 unfold order_Kinds_1 at h0;refine CallF.mkG (X:=X) rfl Tryz.func108 rfl rfl Tryz.ntmps108 rfl rfl ?_;refine aS ?_;refine TL.op1 (OpR.boxImm rfl rfl) rfl ?_;refine TL.op1 (OpR.boxImm rfl rfl) rfl ?_;refine aA rfl rfl ?_;refine aN rfl ?_;refine aS ?_;refine TL.op1 (OpR.loadPtr 0 rfl rfl rfl rfl) rfl ?_;iterate 2 refine aA rfl rfl ?_
 obtain⟨x1,hx1,h0⟩:=bS h0;refine TL.op1 (OpR.callV [1,2,3,4] rfl fn170 (order_standing_1_c hx1) rfl rfl rfl (fun _=>rfl)) rfl ?_;iterate 2 refine aA rfl rfl ?_
 refine aN rfl ?_;refine T.ret ?_;obtain rfl:=osi h0;exact rO [0,1,2,3,4] [5] rfl undef (cT rfl ResL.nil) rfl rfl rfl rfl
end Go.Proofs.YtpmhiiemklhbhaaGreat.S
