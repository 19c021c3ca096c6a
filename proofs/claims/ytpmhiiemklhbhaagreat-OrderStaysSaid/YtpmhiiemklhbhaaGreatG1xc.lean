import Derived.Test.YtpmhiiemklhbhaaGreatG1xb
set_option maxHeartbeats 4000000
set_option linter.unusedVariables false
set_option linter.unusedSimpArgs false
set_option maxRecDepth 20000
namespace Go.Proofs.YtpmhiiemklhbhaaGreat.S
open Go Go.Sm
attribute [local irreducible] T TL OpR CallT wo loop
noncomputable def zP.l1 (a4:Int) (s4:(List NP) × (List row_Row) × Int × Int × (List wFr)) (s14:Int × Int):Option (Lp (Int × Int) (Int × Int)):=
 bnd (if s14.2<(w64 ((s4.1.length:Int)-1)) then
 bnd (idx s4.1 s14.2) fun x24=>
 bnd (vi x24) fun x25=>
 some (decide (a4≥(w64 (s14.1+x25.fN))))
else
 some false:Option Bool) fun t22=>
 if t22=true then
 bnd (idx s4.1 s14.2) fun x27=>
 bnd (vi x27) fun x28=>
 some (Lp.next (w64 (s14.1+x28.fN),w64 (s14.2+1)))
else
 some (Lp.done (s14.1,s14.2))
noncomputable def zP.l2 (a4:Int) (s4:(List NP) × (List row_Row) × Int × Int × (List wFr)):Option (Lp ((List NP) × (List row_Row) × Int × Int × (List wFr)) ((List NP) × (List row_Row) × Int × Int × (List wFr))):=
 if (s4.1.length:Int)>0 then
 bnd (loop (zP.l1 a4 s4) (s4.2.2.2.1,0):Option (Int × Int)) fun t13=>
 bnd (app 24 s4.2.2.2.2 [(⟨(some (yM (⟨s4.1,s4.2.1,s4.2.2.1⟩:tNd))),t13.1,t13.2⟩:wFr)]) fun x29=>
 bnd (idx s4.1 t13.2) fun x31=>
 bnd (vi x31) fun x32=>
 some (Lp.next (x32.fKids,x32.fItems,x32.fN,t13.1,x29))
else
 some (Lp.done (s4.1,s4.2.1,s4.2.2.1,s4.2.2.2.1,s4.2.2.2.2))
noncomputable def zP (a0:List NP) (a1:List row_Row) (a2:Int) (a3:Int) (a4:Int) (a5:List wFr):Option (List wFr):=
 bnd (loop (zP.l2 a4) (a0,a1,a2,a3,a5):Option ((List NP) × (List row_Row) × Int × Int × (List wFr))) fun t1=>
 bnd (app 24 t1.2.2.2.2 [(⟨(some (yM (⟨t1.1,t1.2.1,t1.2.2.1⟩:tNd))),t1.2.2.2.1,w64 (a4-t1.2.2.2.1)⟩:wFr)]) fun x33=>
 some x33
theorem sH {a0:List NP} {a1:List row_Row} {a2:Int} {a3:Int} {a4:Int} {a5:List wFr} {b0:Nat} {v1:Value} {res:(List wFr)} (h0:zP a0 a1 a2 a3 a4 a5=some res):zo X 147 [dP b0,.nod [.sl 1 (List.map eNP a0),.sl 3 (List.map z8 a1),dN a2],dN a3,dN a4] [.var b0 [.val v1] 228,.row v1 (List.map yF a5) 3 234] (fun x=>.tup []) (fun x=>[.var b0 [.val (vn x 0)] 228,.row (vn x 0) (List.map yF res) 3 234]):=by
 unfold zP at h0;refine zb (X:=X) Z Tryz.func147 Z Z Tryz.ntmps147 Z Z ?_;refine T.seq ?_;obtain⟨t1,ht1,h0⟩:=bS h0;refine zA (fun S'=>∃ y2:Value,S'=⟨[(3,(dN a4)),(2,(dN t1.2.2.2.1)),(1,.nod [.sl 1 (List.map eNP t1.1),.sl 3 (List.map z8 t1.2.1),dN t1.2.2.1]),(0,(dP b0))],[.var b0 [.val y2] 228,.row y2 (List.map yF t1.2.2.2.2) 3 234],88⟩) (fun _ h=>h) ?_ ?_;rotate_left
 ·rintro _ ⟨y2,rfl⟩;show T X _ _ _;refine T.region ?_;iterate 4 refine aA rfl rfl ?_
  refine z6 (z7 0 Z Z Z Z) Z ?_;iterate 5 refine aA rfl rfl ?_
  refine z6 (OpR.build Z Z Z Z Z) Z ?_;refine z6 (yN Z Z Z Z Z Z Z) Z ?_;obtain⟨x33,hx33,h0⟩:=bS h0;refine TL.op (zM (m:=[(⟨(some (yM (⟨t1.1,t1.2.1,t1.2.2.1⟩:tNd))),t1.2.2.2.1,w64 (a4-t1.2.2.2.1)⟩:wFr)]) yF 1 hx33 Z Z Z Z Z Z Z Z Z (fun _=>Z)) Z (fun v34=>?_);iterate 2 refine aA rfl rfl ?_
  refine zv (OpR.store 0 Z Z Z Z Z Z Z Z) ?_;refine TL.nil ?_;obtain rfl:=osi h0;exact xg (ks:=[0,1]) (Gst.only [] Z) (.tuple #[v34]) ResL.nil Z Z Z Z
 refine T.block ?_;obtain⟨n5,n10⟩:=zy ht1;refine T.loop (fun n S'=>∃ S'',Gst S' S''∧∃ y3:Value,∃ s4:(List NP) × (List row_Row) × Int × Int × (List wFr),S''=⟨[(3,(dN a4)),(2,(dN s4.2.2.2.1)),(1,.nod [.sl 1 (List.map eNP s4.1),.sl 3 (List.map z8 s4.2.1),dN s4.2.2.1]),(0,(dP b0))],[.var b0 [.val y3] 228,.row y3 (List.map yF s4.2.2.2.2) 3 234],88⟩∧wo (zP.l2 a4) n s4=some t1) n5 ?_ ?_
 ·exact⟨_,Gst.only [0,1,2,3] Z,v1,(a0,a1,a2,a3,a5),Z,n10⟩
 rintro n5 _ ⟨_,g,y3,s4,rfl,i9⟩;refine T.ghost g ?_;obtain⟨m6,q7,rfl,q8,i9⟩:=zz i9;unfold zP.l2 at q8;refine T.seq ?_;refine aS ?_;iterate 4 refine aA rfl rfl ?_
 refine z6 (zk (OpR.pure Z) (xn (w9 _ _))) Z ?_;refine aA Z Z ?_;refine aN Z ?_;rcases z9 q8 with ⟨c12,q8⟩|⟨c12,q8⟩;rotate_left
 ·refine ze Z (eF c12) ?_;refine T.exit ?_;obtain rfl:=osi q8;obtain rfl:_=_:=i9;exact⟨_,Gst.only [0,1,2,3] Z,y3,Z⟩
 refine zf Z (eT c12) ?_;refine aK Z ?_;refine T.block ?_;refine aS ?_;refine aA Z Z ?_;refine aN Z ?_;refine T.seq ?_;obtain⟨t13,ht13,q8⟩:=bS q8;refine zA (fun S'=>S'=⟨[(8,(dN t13.2)),(3,(dN a4)),(2,(dN t13.1)),(1,.nod [.sl 1 (List.map eNP s4.1),.sl 3 (List.map z8 s4.2.1),dN s4.2.2.1]),(0,(dP b0))],[.var b0 [.val y3] 228,.row y3 (List.map yF s4.2.2.2.2) 3 234],88⟩) (fun _ h=>h) ?_ ?_;rotate_left
 ·rintro _ rfl;show T X _ _ _;refine aS ?_;iterate 4 refine aA rfl rfl ?_
  refine z6 (z7 0 Z Z Z Z) Z ?_;iterate 3 refine aA rfl rfl ?_
  refine z6 (OpR.build Z Z Z Z Z) Z ?_;refine z6 (yN Z Z Z Z Z Z Z) Z ?_;obtain⟨x29,hx29,q8⟩:=bS q8;refine TL.op (zM (m:=[(⟨(some (yM (⟨s4.1,s4.2.1,s4.2.2.1⟩:tNd))),t13.1,t13.2⟩:wFr)]) yF 1 hx29 Z Z Z Z Z Z Z Z Z (fun _=>Z)) Z (fun v30=>?_);iterate 2 refine aA rfl rfl ?_
  refine zv (OpR.store 0 Z Z Z Z Z Z Z Z) ?_;refine aN Z ?_;refine T.region ?_;iterate 5 refine aA rfl rfl ?_
  obtain⟨x31,hx31,q8⟩:=bS q8;obtain⟨x32,hx32,q8⟩:=bS q8;rw[xf hx32] at hx31;refine z6 (zp eNP hx31 Z Z Z Z Z) Z ?_;iterate 2 refine aA rfl rfl ?_
  refine TL.nil ?_;obtain rfl:=osi q8;exact⟨m6,Nat.lt_succ_self _,_,Gst.only [0,1,2,3] Z,v30,(x32.fKids,x32.fItems,x32.fN,t13.1,x29),Z,i9⟩
 refine T.block ?_;obtain⟨n15,n20⟩:=zy ht13;refine T.loop (fun n S'=>∃ S'',Gst S' S''∧∃ s14:Int × Int,S''=⟨[(8,(dN s14.2)),(3,(dN a4)),(2,(dN s14.1)),(1,.nod [.sl 1 (List.map eNP s4.1),.sl 3 (List.map z8 s4.2.1),dN s4.2.2.1]),(0,(dP b0))],[.var b0 [.val y3] 228,.row y3 (List.map yF s4.2.2.2.2) 3 234],88⟩∧wo (zP.l1 a4 s4) n s14=some t13) n15 ?_ ?_
 ·exact⟨_,Gst.only [0,1,2,3,8] Z,(s4.2.2.2.1,0),Z,n20⟩
 rintro n15 _ ⟨_,g,s14,rfl,i19⟩;refine T.ghost g ?_;obtain⟨m16,q17,rfl,q18,i19⟩:=zz i19;unfold zP.l1 at q18;refine T.seq ?_;refine T.seq ?_;obtain⟨t22,ht22,q18⟩:=bS q18;refine zA (fun S'=>S'=⟨[(38,(dT t22)),(8,(dN s14.2)),(3,(dN a4)),(2,(dN s14.1)),(1,.nod [.sl 1 (List.map eNP s4.1),.sl 3 (List.map z8 s4.2.1),dN s4.2.2.1]),(0,(dP b0))],[.var b0 [.val y3] 228,.row y3 (List.map yF s4.2.2.2.2) 3 234],88⟩) (fun _ h=>h) ?_ ?_;rotate_left
 ·rintro _ rfl;show T X _ _ _;rcases z9 q18 with ⟨c26,q18⟩|⟨c26,q18⟩;rotate_left
  ·refine ze Z (eN c26) ?_;refine T.exit ?_;obtain rfl:=osi q18;obtain rfl:_=_:=i19;exact⟨_,Gst.only [0,1,2,3,8] Z,Z⟩
  refine zf Z (c26) ?_;refine aK Z ?_;refine T.block ?_;refine aS ?_;iterate 6 refine aA rfl rfl ?_
  obtain⟨x27,hx27,q18⟩:=bS q18;obtain⟨x28,hx28,q18⟩:=bS q18;rw[xf hx28] at hx27;refine z6 (zp eNP hx27 Z Z Z Z Z) Z ?_;iterate 6 refine aA rfl rfl ?_
  refine aN Z ?_;refine T.region ?_;iterate 3 refine aA rfl rfl ?_
  refine TL.nil ?_;obtain rfl:=osi q18;exact⟨m16,Nat.lt_succ_self _,_,Gst.only [0,1,2,3,8] Z,(w64 (s14.1+x28.fN),w64 (s14.2+1)),Z,i19⟩
 refine T.region ?_;iterate 5 refine aA rfl rfl ?_
 refine z6 (zk (OpR.pure Z) (xn (w9 _ _))) Z ?_;iterate 3 refine aA rfl rfl ?_
 rcases z9 ht22 with ⟨c23,ht22⟩|⟨c23,ht22⟩;rotate_left
 ·refine TL.off Z Z Z Z (eF c23) Z Z ?_;refine TL.off Z Z Z Z (eF c23) Z Z ?_;refine TL.off Z Z Z Z (eF c23) Z Z ?_;refine TL.off Z Z Z Z (eF c23) Z Z ?_;refine TL.off Z Z Z Z (eF c23) Z Z ?_;refine TL.off Z Z Z Z (eF c23) Z Z ?_;refine TL.off Z Z Z Z (eF c23) Z Z ?_;refine TL.off Z Z Z Z (eF c23) Z Z ?_;refine TL.off Z Z Z Z (eF c23) Z Z ?_;refine TL.off Z Z Z Z (eF c23) Z Z ?_;refine TL.off Z Z Z Z (eF c23) Z Z ?_;refine TL.off Z Z Z Z (eF c23) Z Z ?_;refine TL.off Z Z Z Z (eF c23) Z Z ?_;refine TL.off Z Z Z Z (eF c23) Z Z ?_;refine z6 (zx Z (eF c23) Z) Z ?_;refine TL.nil ?_;obtain rfl:=osi ht22;exact⟨_,Gst.only [0,1,2,3,8,38] Z,Z⟩
 refine TL.on Z Z Z Z (eT c23) ?_;refine aA Z Z ?_;refine TL.on Z Z Z Z (eT c23) ?_;refine aA Z Z ?_;refine TL.on Z Z Z Z (eT c23) ?_;refine aA Z Z ?_;refine TL.on Z Z Z Z (eT c23) ?_;refine aA Z Z ?_;refine TL.on Z Z Z Z (eT c23) ?_;refine aA Z Z ?_;refine TL.on Z Z Z Z (eT c23) ?_;refine aA Z Z ?_;refine TL.on Z Z Z Z (eT c23) ?_;refine aA Z Z ?_;refine TL.on Z Z Z Z (eT c23) ?_;obtain⟨x24,hx24,ht22⟩:=bS ht22;obtain⟨x25,hx25,ht22⟩:=bS ht22;rw[xf hx25] at hx24;refine z6 (zp eNP hx24 Z Z Z Z Z) Z ?_;refine TL.on Z Z Z Z (eT c23) ?_;refine aA Z Z ?_;refine TL.on Z Z Z Z (eT c23) ?_;refine aA Z Z ?_;refine TL.on Z Z Z Z (eT c23) ?_;refine aA Z Z ?_;refine TL.on Z Z Z Z (eT c23) ?_;refine aA Z Z ?_;refine TL.on Z Z Z Z (eT c23) ?_;refine aA Z Z ?_;refine TL.on Z Z Z Z (eT c23) ?_;refine aA Z Z ?_;refine z6 (zt Z (eT c23) Z) Z ?_;refine TL.nil ?_;obtain rfl:=osi ht22;exact⟨_,Gst.only [0,1,2,3,8,38] Z,Z⟩
noncomputable def zL.l1 (s7:(List wFr)):Option (Lp (List wFr) (Ex (List wFr) (Bool × (List wFr)))):=
 if (s7.length:Int)>0 then
  bnd (ya s7) fun x16=>
  bnd (idx s7 x16) fun x17=>
  bnd (some x17.fN) fun q18=>match q18 with
   | none=>
    none
   | some z19=>
    bnd (vi z19) fun x21=>
    bnd (idx x21.fKids x17.fNext) fun x23=>
    bnd (vi x23) fun x24=>
    bnd (idx (s7.set x16.toNat (⟨x17.fN,w64 (x17.fFirst+x24.fN),x17.fNext⟩:wFr)) x16) fun x25=>
    bnd (idx ((s7.set x16.toNat (⟨x17.fN,w64 (x17.fFirst+x24.fN),x17.fNext⟩:wFr)).set x16.toNat (⟨x25.fN,x25.fFirst,w64 (x25.fNext+1)⟩:wFr)) x16) fun x26=>
    bnd (some x26.fN) fun q27=>match q27 with
     | none=>
      none
     | some z28=>
      bnd (vi z28) fun x30=>
      if x26.fNext<(x30.fKids.length:Int) then
       bnd (idx x30.fKids x26.fNext) fun x34=>
       bnd (vi x34) fun x35=>
       bnd (zP x35.fKids x35.fItems x35.fN x26.fFirst x26.fFirst ((s7.set x16.toNat (⟨x17.fN,w64 (x17.fFirst+x24.fN),x17.fNext⟩:wFr)).set x16.toNat (⟨x25.fN,x25.fFirst,w64 (x25.fNext+1)⟩:wFr))) fun x36=>
       some (Lp.done (Ex.ret (true,x36)))
      else
       bnd (some (((s7.set x16.toNat (⟨x17.fN,w64 (x17.fFirst+x24.fN),x17.fNext⟩:wFr)).set x16.toNat (⟨x25.fN,x25.fFirst,w64 (x25.fNext+1)⟩:wFr)).length:Int)) fun x38=>
       bnd (cut ((s7.set x16.toNat (⟨x17.fN,w64 (x17.fFirst+x24.fN),x17.fNext⟩:wFr)).set x16.toNat (⟨x25.fN,x25.fFirst,w64 (x25.fNext+1)⟩:wFr)) 0 (w64 (x38-1))) fun x39=>
       some (Lp.next x39)
 else
  some (Lp.done (Ex.brk s7))
noncomputable def zL (a0:List wFr):Option (Bool × (List wFr)):=
 bnd (cut a0 0 (w64 ((a0.length:Int)-1))) fun x2=>
 bnd (loop zL.l1 x2:Option (Ex (List wFr) (Bool × (List wFr)))) fun t3=>match t3 with
| .brk u4=>
 some (false,u4)
| .ret u4=>some u4
theorem wa {a0:List wFr} {b0:Nat} {v1:Value} {res:Bool × (List wFr)} (h0:zL a0=some res):zo X 150 [dP b0] [.var b0 [.val v1] 228,.row v1 (List.map yF a0) 3 234] (fun x=>(dT res.1)) (fun x=>[.var b0 [.val (vn x 0)] 228,.row (vn x 0) (List.map yF res.2) 3 234]):=by
 unfold zL at h0;refine zb (X:=X) Z Tryz.func150 Z Z Tryz.ntmps150 Z Z ?_;refine aS ?_;refine aA Z Z ?_;refine aN Z ?_;refine T.seq ?_;obtain⟨x2,hx2,h0⟩:=bS h0;refine yA zV (fun env1=>[dP b0,dP b0,dP b0,dP b0,.val v1,dP b0,dP b0,dP b0,.val v1,dN (a0.length:Int),dN (w64 ((a0.length:Int)-1)),.val (vw v1 (0:Int).toNat (w64 ((a0.length:Int)-1):Int).toNat 3),dP b0,dP b0,.dead]) (fun D env1=>[(bif D 14 then .var b0 [.val (vw v1 (0:Int).toNat (w64 ((a0.length:Int)-1):Int).toNat 3)] 228 else .var b0 [.val v1] 228),.row v1 (List.map yF a0) 3 234]) [0,0,2,6,14,0,32,96,224,480,992,2046,4095,8191,16383] [0,2] _ (by decide +kernel) (by decide +kernel) (fun _=>Z) (fun _=>Z) ?_ (fun _=>Z) (fun _=>Z) ?_
 ·iterate 4 refine aC ?_
  refine zi true ?_ (fun _ _ _ _ _ _ _=>Z) ?_
  ·intro D env1 hA;have e14:D 14=false:=hA.no 14 _ rfl rfl;exact zK [(14,false)] ⟨e14,trivial⟩ (Want.plain Z) (z7 0 Z Z Z Z) (fun x=>Z) (fun x=>Z)
  iterate 3 refine aC ?_
  refine zi true ?_ (fun _ _ _ _ _ _ _=>Z) ?_
  ·intro D env1 hA;have e14:D 14=false:=hA.no 14 _ rfl rfl;exact zK [(14,false)] ⟨e14,trivial⟩ (Want.plain Z) (z7 0 Z Z Z Z) (fun x=>Z) (fun x=>Z)
  refine oT ((dN (a0.length:Int))) (fun _ _=>yH yF 1 Z Z Z Z) ?_;refine aC ?_;refine oT (.val (vw v1 (0:Int).toNat (w64 ((a0.length:Int)-1):Int).toNat 3)) (fun _ _=>wK yF 1 hx2 Z Z Z Z Z Z BdM.none (BdM.some Z)) ?_;iterate 2 refine aC ?_
  refine zi true ?_ (fun _ _ _ _ _ _ _=>Z) ?_
  ·intro D env1 hA;exact zK [(14,false)] ⟨hA.me,trivial⟩ (Want.plain Z) (OpR.store 0 Z Z Z Z Z Z Z Z) (fun x=>Z) (fun x=>Z)
  exact trivial
 intro env1;show T X _ _ _;refine T.ghost (qN (ow:=[.var b0 [.val (vw v1 (0:Int).toNat (w64 ((a0.length:Int)-1):Int).toNat 3)] 228,.row v1 (List.map yF a0) 3 234]) yF 1 hx2 Z Z) ?_;refine T.seq ?_;obtain⟨t3,ht3,h0⟩:=bS h0;refine zA (fun S'=>∃ u4,t3=Ex.brk u4∧∃ y5:Value,S'=⟨[(2,(dT false))],[.var b0 [.val y5] 228,.row y5 (List.map yF u4) 3 234],106⟩) (fun _ h=>h) ?_ ?_;rotate_left
 ·rintro _ ⟨u4,rfl,y5,rfl⟩;show T X _ _ _;refine aS ?_;refine aA Z Z ?_;refine aN Z ?_;refine T.ret ?_;obtain rfl:=osi h0;exact rO [0,1] [2] Z (.tuple #[y5]) (cT Z ResL.nil) Z Z Z Z
 refine T.block ?_;obtain⟨n8,n13⟩:=zy ht3;refine T.loop (fun n S'=>∃ S'',Gst S' S''∧∃ y6:Value,∃ s7:(List wFr),S''=⟨[(2,(dT false)),(0,(dP b0))],[.var b0 [.val y6] 228,.row y6 (List.map yF s7) 3 234],106⟩∧wo zL.l1 n s7=some t3) n8 ?_ ?_
 ·exact⟨_,Gst.only [0,2] Z,(vw v1 (0:Int).toNat (w64 ((a0.length:Int)-1):Int).toNat 3),x2,Z,n13⟩
 rintro n8 _ ⟨_,g,y6,s7,rfl,i12⟩;refine T.ghost g ?_;obtain⟨m9,q10,rfl,q11,i12⟩:=zz i12;unfold zL.l1 at q11;refine T.seq ?_;refine aS ?_;iterate 3 refine aA rfl rfl ?_
 refine z6 (z7 0 Z Z Z Z) Z ?_;refine z6 (yH yF 1 Z Z Z Z) Z ?_;refine aA Z Z ?_;refine aN Z ?_;rcases z9 q11 with ⟨c15,q11⟩|⟨c15,q11⟩;rotate_left
 ·refine ze Z (eF c15) ?_;refine T.exit ?_;obtain rfl:=osi q11;obtain rfl:_=_:=i12;exact⟨_,Gst.only [2] Z,_,Z,y6,Z⟩
 refine zf Z (eT c15) ?_;refine aK Z ?_;refine T.block ?_;refine aS ?_;refine aA Z Z ?_;obtain⟨x16,hx16,q11⟩:=bS q11;refine z6 (OpR.call [0,1] fn149 (yy hx16) Z Z Z (fun _=>Z)) Z ?_;refine aA Z Z ?_;refine aN Z ?_;refine T.seq ?_;obtain⟨x17,hx17,q11⟩:=bS q11;obtain⟨q18,hq18,q11⟩:=bS q11;rcases q18 with _|z19
 ·dsimp only at q11;exact (by cases q11)
 dsimp only at q11;obtain⟨x21,hx21,q11⟩:=bS q11;rw[xf hx21] at hq18;obtain⟨x23,hx23,q11⟩:=bS q11;obtain⟨x24,hx24,q11⟩:=bS q11;rw[xf hx24] at hx23;refine yA zV (fun env22=>[.val (.pointer (some ⟨blk y6,x16.toNat*3,none⟩)),.val (.pointer (some ⟨blk y6,x16.toNat*3,none⟩)),.val (.pointer (some ⟨blk y6,x16.toNat*3+1,none⟩)),dN x17.fFirst,.val (.pointer (some ⟨blk y6,x16.toNat*3,none⟩)),.val (.pointer (some ⟨blk y6,x16.toNat*3,none⟩)),.val (.pointer (some ⟨blk y6,x16.toNat*3,none⟩)),.nod [.sl 1 (List.map eNP x21.fKids),.sl 3 (List.map z8 x21.fItems),dN x21.fN],.nod [.sl 1 (List.map eNP x21.fKids),.sl 3 (List.map z8 x21.fItems),dN x21.fN],.nod [.sl 1 (List.map eNP x21.fKids),.sl 3 (List.map z8 x21.fItems),dN x21.fN],.sl 1 (List.map eNP x21.fKids),.val (.pointer (some ⟨blk y6,x16.toNat*3,none⟩)),.val (.pointer (some ⟨blk y6,x16.toNat*3,none⟩)),.val (.pointer (some ⟨blk y6,x16.toNat*3+2,none⟩)),dN x17.fNext,.nod [.nod [.sl 1 (List.map eNP x24.fKids),.sl 3 (List.map z8 x24.fItems),dN x24.fN]],.nod [.sl 1 (List.map eNP x24.fKids),.sl 3 (List.map z8 x24.fItems),dN x24.fN],.nod [.sl 1 (List.map eNP x24.fKids),.sl 3 (List.map z8 x24.fItems),dN x24.fN],.nod [dN x24.fN],dN x24.fN,dN (w64 (x17.fFirst+x24.fN)),.val (.pointer (some ⟨blk y6,x16.toNat*3,none⟩)),.val (.pointer (some ⟨blk y6,x16.toNat*3+1,none⟩)),.dead]) (fun D env22=>[.var b0 [.val y6] 228,(bif D 23 then .row y6 (List.map yF (s7.set x16.toNat (⟨x17.fN,w64 (x17.fFirst+x24.fN),x17.fNext⟩:wFr))) 3 234 else .row y6 (List.map yF s7) 3 234)]) [0,1,3,7,0,16,48,112,240,496,1008,0,2048,6144,14336,32752,65520,131056,262128,524272,1048575,2097151,4194303,8388607] [0,2,3] _ (by decide +kernel) (by decide +kernel) (fun _=>Z) (fun _=>Z) ?_ (fun _=>Z) (fun _=>Z) ?_
 ·iterate 3 refine aC ?_
  refine zi true ?_ (fun _ _ _ _ _ _ _=>Z) ?_
  ·intro D env22 hA;have e23:D 23=false:=hA.no 23 _ rfl rfl;exact zK [(23,false)] ⟨e23,trivial⟩ (Want.plain Z) (yL (j:=x16) yF 1 hx17 Z Z Z Z) (fun x=>Z) (fun x=>Z)
  iterate 3 refine aC ?_
  refine zi true ?_ (fun _ _ _ _ _ _ _=>Z) ?_
  ·intro D env22 hA;have e23:D 23=false:=hA.no 23 _ rfl rfl;exact zK [(23,false)] ⟨e23,trivial⟩ (Want.plain Z) (zk (zH (j:=x16) yF 1 hx17 Z Z Z Z) (congrArg eOP (osi hq18))) (fun x=>Z) (fun x=>Z)
  iterate 6 refine aC ?_
  refine zi true ?_ (fun _ _ _ _ _ _ _=>Z) ?_
  ·intro D env22 hA;have e23:D 23=false:=hA.no 23 _ rfl rfl;exact zK [(23,false)] ⟨e23,trivial⟩ (Want.plain Z) (yL (j:=x16) yF 1 hx17 Z Z Z Z) (fun x=>Z) (fun x=>Z)
  refine oT (.nod [.nod [.sl 1 (List.map eNP x24.fKids),.sl 3 (List.map z8 x24.fItems),dN x24.fN]]) (fun _ _=>zp eNP hx23 Z Z Z Z Z) ?_;iterate 7 refine aC ?_
  refine zi true ?_ (fun _ _ _ _ _ _ _=>Z) ?_
  ·intro D env22 hA;exact zK [(23,false)] ⟨hA.me,trivial⟩ (Want.plain Z) (un (j:=x16) yF (⟨x17.fN,w64 (x17.fFirst+x24.fN),x17.fNext⟩:wFr) 1 hx17 Z Z Z Z Z Z Z Z Z) (fun x=>Z) (fun x=>Z)
  exact trivial
 intro env22;show T X _ _ _;refine aS ?_;iterate 3 refine aA rfl rfl ?_
 obtain⟨x25,hx25,q11⟩:=bS q11;refine z6 (yL (j:=x16) yF 1 hx25 Z Z Z Z) Z ?_;iterate 3 refine aA rfl rfl ?_
 refine zv (un (j:=x16) yF (⟨x25.fN,x25.fFirst,w64 (x25.fNext+1)⟩:wFr) 1 hx25 Z Z Z Z Z Z Z Z Z) ?_;refine aN Z ?_;refine T.seq ?_;refine T.seq ?_;obtain⟨x26,hx26,q11⟩:=bS q11;obtain⟨q27,hq27,q11⟩:=bS q11;rcases q27 with _|z28
 ·dsimp only at q11;exact (by cases q11)
 dsimp only at q11;obtain⟨x30,hx30,q11⟩:=bS q11;rw[xf hx30] at hq27;refine yr zV [.val (.pointer (some ⟨blk y6,x16.toNat*3,none⟩)),.val (.pointer (some ⟨blk y6,x16.toNat*3,none⟩)),.val (.pointer (some ⟨blk y6,x16.toNat*3+2,none⟩)),dN x26.fNext,.val (.pointer (some ⟨blk y6,x16.toNat*3,none⟩)),.val (.pointer (some ⟨blk y6,x16.toNat*3,none⟩)),.val (.pointer (some ⟨blk y6,x16.toNat*3,none⟩)),.nod [.sl 1 (List.map eNP x30.fKids),.sl 3 (List.map z8 x30.fItems),dN x30.fN],.nod [.sl 1 (List.map eNP x30.fKids),.sl 3 (List.map z8 x30.fItems),dN x30.fN],.nod [.sl 1 (List.map eNP x30.fKids),.sl 3 (List.map z8 x30.fItems),dN x30.fN],.sl 1 (List.map eNP x30.fKids),dN (x30.fKids.length:Int),dT (decide (x26.fNext<(x30.fKids.length:Int)))] [0,2,3,68] (by decide +kernel) Z ?_ Z ?_
 ·iterate 3 refine aB rfl rfl rfl ?_
  refine zw.yes (Want.plain Z) Z (yL (j:=x16) yF 1 hx26 Z Z Z Z) ?_;iterate 3 refine aB rfl rfl rfl ?_
  refine zw.yes (Want.plain Z) Z (zk (zH (j:=x16) yF 1 hx26 Z Z Z Z) (congrArg eOP (osi hq27))) ?_;iterate 3 refine aB rfl rfl rfl ?_
  refine zw.yes (Want.plain Z) Z (zk (OpR.pure Z) (xn (w9 _ _))) ?_;refine aB Z Z Z ?_;exact zw.nil
 show T X _ _ _;rcases z9 q11 with ⟨c32,q11⟩|⟨c32,q11⟩;rotate_left
 ·refine ze Z (eF c32) ?_;refine aK Z ?_;obtain⟨x38,hx38,q11⟩:=bS q11;obtain⟨x39,hx39,q11⟩:=bS q11;refine yA zV (fun env37=>[dP b0,dP b0,dP b0,dP b0,.val y6,dP b0,dP b0,dP b0,.val y6,dN x38,dN (w64 (x38-1)),.val (vw y6 (0:Int).toNat (w64 (x38-1):Int).toNat 3),dP b0,dP b0,.dead]) (fun D env37=>[(bif D 14 then .var b0 [.val (vw y6 (0:Int).toNat (w64 (x38-1):Int).toNat 3)] 228 else .var b0 [.val y6] 228),.row y6 (List.map yF ((s7.set x16.toNat (⟨x17.fN,w64 (x17.fFirst+x24.fN),x17.fNext⟩:wFr)).set x16.toNat (⟨x25.fN,x25.fFirst,w64 (x25.fNext+1)⟩:wFr))) 3 234]) [0,0,2,6,14,0,32,96,224,480,992,2046,4095,8191,16383] [0,2] _ (by decide +kernel) (by decide +kernel) (fun _=>Z) (fun _=>Z) ?_ (fun _=>Z) (fun _=>Z) ?_;rotate_left
  ·intro env37;obtain rfl:=osi q11;exact⟨m9,Nat.lt_succ_self _,_,Gst.trans (qN (ow:=[.var b0 [.val (vw y6 (0:Int).toNat (w64 (x38-1):Int).toNat 3)] 228,.row y6 (List.map yF ((s7.set x16.toNat (⟨x17.fN,w64 (x17.fFirst+x24.fN),x17.fNext⟩:wFr)).set x16.toNat (⟨x25.fN,x25.fFirst,w64 (x25.fNext+1)⟩:wFr))) 3 234]) yF 1 hx39 Z Z) (Gst.only [0,2] Z),(vw y6 (0:Int).toNat (w64 (x38-1):Int).toNat 3),x39,Z,i12⟩
  iterate 4 refine aC ?_
  refine zi true ?_ (fun _ _ _ _ _ _ _=>Z) ?_
  ·intro D env37 hA;have e14:D 14=false:=hA.no 14 _ rfl rfl;exact zK [(14,false)] ⟨e14,trivial⟩ (Want.plain Z) (z7 0 Z Z Z Z) (fun x=>Z) (fun x=>Z)
  iterate 3 refine aC ?_
  refine zi true ?_ (fun _ _ _ _ _ _ _=>Z) ?_
  ·intro D env37 hA;have e14:D 14=false:=hA.no 14 _ rfl rfl;exact zK [(14,false)] ⟨e14,trivial⟩ (Want.plain Z) (z7 0 Z Z Z Z) (fun x=>Z) (fun x=>Z)
  refine oT ((dN x38)) (fun _ _=>zk (yH yF 1 Z Z Z Z) (xn (osi hx38))) ?_;refine aC ?_;refine oT (.val (vw y6 (0:Int).toNat (w64 (x38-1):Int).toNat 3)) (fun _ _=>wK yF 1 hx39 Z Z Z Z Z Z BdM.none (BdM.some Z)) ?_;iterate 2 refine aC ?_
  refine zi true ?_ (fun _ _ _ _ _ _ _=>Z) ?_
  ·intro D env37 hA;exact zK [(14,false)] ⟨hA.me,trivial⟩ (Want.plain Z) (OpR.store 0 Z Z Z Z Z Z Z Z) (fun x=>Z) (fun x=>Z)
  exact trivial
 refine zf Z (eT c32) ?_;refine T.seq ?_;obtain⟨x34,hx34,q11⟩:=bS q11;obtain⟨x35,hx35,q11⟩:=bS q11;rw[xf hx35] at hx34;obtain⟨x36,hx36,q11⟩:=bS q11;refine yA zV (fun env33=>[dP b0,.val (.pointer (some ⟨blk y6,x16.toNat*3,none⟩)),.val (.pointer (some ⟨blk y6,x16.toNat*3,none⟩)),.val (.pointer (some ⟨blk y6,x16.toNat*3,none⟩)),.nod [.sl 1 (List.map eNP x30.fKids),.sl 3 (List.map z8 x30.fItems),dN x30.fN],.nod [.sl 1 (List.map eNP x30.fKids),.sl 3 (List.map z8 x30.fItems),dN x30.fN],.nod [.sl 1 (List.map eNP x30.fKids),.sl 3 (List.map z8 x30.fItems),dN x30.fN],.sl 1 (List.map eNP x30.fKids),.val (.pointer (some ⟨blk y6,x16.toNat*3,none⟩)),.val (.pointer (some ⟨blk y6,x16.toNat*3,none⟩)),.val (.pointer (some ⟨blk y6,x16.toNat*3+2,none⟩)),dN x26.fNext,.nod [.nod [.sl 1 (List.map eNP x35.fKids),.sl 3 (List.map z8 x35.fItems),dN x35.fN]],.nod [.sl 1 (List.map eNP x35.fKids),.sl 3 (List.map z8 x35.fItems),dN x35.fN],.val (.pointer (some ⟨blk y6,x16.toNat*3,none⟩)),.val (.pointer (some ⟨blk y6,x16.toNat*3,none⟩)),.val (.pointer (some ⟨blk y6,x16.toNat*3+1,none⟩)),dN x26.fFirst,.val (.pointer (some ⟨blk y6,x16.toNat*3,none⟩)),.val (.pointer (some ⟨blk y6,x16.toNat*3,none⟩)),.val (.pointer (some ⟨blk y6,x16.toNat*3+1,none⟩)),dN x26.fFirst,.tup []]) (fun D env33=>[(bif D 22 then .var b0 [.val (vn (env33 22) 0)] 228 else .var b0 [.val y6] 228),(bif D 22 then .row (vn (env33 22) 0) (List.map yF x36) 3 234 else .row y6 (List.map yF ((s7.set x16.toNat (⟨x17.fN,w64 (x17.fFirst+x24.fN),x17.fNext⟩:wFr)).set x16.toNat (⟨x25.fN,x25.fFirst,w64 (x25.fNext+1)⟩:wFr))) 3 234)]) [0,0,2,6,14,30,62,126,0,256,768,1792,4094,8190,0,16384,49152,114688,0,262144,786432,1835008,4194303] [0,2] _ (by decide +kernel) (by decide +kernel) (fun _=>Z) (fun _=>Z) ?_ (fun _=>Z) (fun _=>Z) ?_;rotate_left
 ·intro env33;show T X _ _ _;refine aS ?_;refine aA Z Z ?_;refine aN Z ?_;refine T.ret ?_;obtain rfl:=osi q11;obtain rfl:_=_:=i12;obtain rfl:=osi h0;exact rO [0,1] [2] Z (.tuple #[(vn (env33 22) 0)]) (cT Z ResL.nil) Z Z Z Z
 iterate 4 refine aC ?_
 refine zi true ?_ (fun _ _ _ _ _ _ _=>Z) ?_
 ·intro D env33 hA;have e22:D 22=false:=hA.no 22 _ rfl rfl;exact zK [(22,false)] ⟨e22,trivial⟩ (Want.plain Z) (zk (zH (j:=x16) yF 1 hx26 Z Z Z Z) (congrArg eOP (osi hq27))) (fun x=>Z) (fun x=>Z)
 iterate 6 refine aC ?_
 refine zi true ?_ (fun _ _ _ _ _ _ _=>Z) ?_
 ·intro D env33 hA;have e22:D 22=false:=hA.no 22 _ rfl rfl;exact zK [(22,false)] ⟨e22,trivial⟩ (Want.plain Z) (yL (j:=x16) yF 1 hx26 Z Z Z Z) (fun x=>Z) (fun x=>Z)
 refine oT (.nod [.nod [.sl 1 (List.map eNP x35.fKids),.sl 3 (List.map z8 x35.fItems),dN x35.fN]]) (fun _ _=>zp eNP hx34 Z Z Z Z Z) ?_;iterate 4 refine aC ?_
 refine zi true ?_ (fun _ _ _ _ _ _ _=>Z) ?_
 ·intro D env33 hA;have e22:D 22=false:=hA.no 22 _ rfl rfl;exact zK [(22,false)] ⟨e22,trivial⟩ (Want.plain Z) (yL (j:=x16) yF 1 hx26 Z Z Z Z) (fun x=>Z) (fun x=>Z)
 iterate 3 refine aC ?_
 refine zi true ?_ (fun _ _ _ _ _ _ _=>Z) ?_
 ·intro D env33 hA;have e22:D 22=false:=hA.no 22 _ rfl rfl;exact zK [(22,false)] ⟨e22,trivial⟩ (Want.plain Z) (yL (j:=x16) yF 1 hx26 Z Z Z Z) (fun x=>Z) (fun x=>Z)
 refine zi true ?_ (fun D hA env33 x j hj hD=>match j,hj,hD with|0,_,_=>Z|1,_,_=>Z|2,_,_=>Z|3,_,_=>Z|4,_,_=>Z|5,_,_=>Z|6,_,_=>Z|7,_,_=>Z|8,_,_=>Z|9,_,_=>Z|10,_,_=>Z|11,_,_=>Z|12,_,_=>Z|13,_,_=>Z|14,_,_=>Z|15,_,_=>Z|16,_,_=>Z|17,_,_=>Z|18,_,_=>Z|19,_,_=>Z|20,_,_=>Z|21,_,_=>Z|22,hj,_=>absurd Z hj|_+23,_,_=>Z) ?_
 ·intro D env33 hA;exact zK [(22,false)] ⟨hA.me,trivial⟩ (Want.plain Z) (OpR.call [0,1] fn147 (sH hx36) Z Z Z (fun _=>Z)) (fun x=>Z) (fun x=>Z)
 exact trivial
noncomputable def yo (a0:Int) (a1:row_Row) (a2:List Int):Option (List Int):=
 if a1.fHidden=true then
 some a2
else
 bnd (app 8 a2 [a0]) fun x33=>
 some x33
theorem rr {a0:Int} {a1:row_Row} {a2:List Int} {b0:Nat} {b1:Nat} {v2:Value} {res:(List Int)} (h0:yo a0 a1 a2=some res):sY X b0 [dN a0,.agg [.sl 5 (List.map zj a1.fCells),dN a1.fEnd,dT a1.fHidden]] [.lp b0 .ready none [11,12] tN tM [(3,(dP b1))] 21,.var b1 [.val v2] 76,.row v2 (List.map (eI .i64) a2) 1 3] (fun x=>(dT true)) (fun x=>[.lp b0 .ready none [11,12] tN tM [(3,(dP b1))] 21,.var b1 [.val (vn x 0)] 76,.row (vn x 0) (List.map (eI .i64) res) 1 3]):=by
 unfold yo at h0;refine sY.mk (X:=X) Z Z Z ?_;refine aS ?_;refine aA Z Z ?_;refine TL.nil ?_;show T (X.inR b0) _ _ _;refine T.region ?_;refine TL.op (OpR.alloc Z Z (fun _=>Z)) Z (fun p31=>?_);refine zv (OpR.store 3 Z Z Z Z Z Z Z Z) ?_;refine TL.nil ?_;refine RoundA.mk ?_;refine T.block ?_;refine aS ?_;refine aA Z Z ?_;refine z6 (z7 3 Z Z Z Z) Z ?_;refine aA Z Z ?_;refine TL.nil ?_;show T (X.inR b0) _ _ _;rcases z9 h0 with ⟨c32,h0⟩|⟨c32,h0⟩
 ·refine ze Z (zQ (c32)) ?_;refine T.skip ?_;obtain rfl:=osi h0;exact sX.mk (ks:=[0,1,2]) (gP [] [0,1,2] Z Z Z) (.tuple #[v2]) Z Z Z Z Z
 refine zf Z (zR (eN c32)) ?_;refine T.region ?_;refine z6 (z7 1 Z Z Z Z) Z ?_;refine aA Z Z ?_;refine z6 (yN Z Z Z Z Z Z Z) Z ?_;obtain⟨x33,hx33,h0⟩:=bS h0;refine TL.op (zM (m:=[a0]) (eI .i64) 2 hx33 Z Z Z Z Z Z Z Z Z (fun _=>Z)) Z (fun v34=>?_);refine zv (OpR.store 1 Z Z Z Z Z Z Z Z) ?_;refine TL.nil ?_;obtain rfl:=osi h0;exact sX.mk (ks:=[0,1,2]) (gP [] [0,1,2] Z Z Z) (.tuple #[v34]) Z Z Z Z Z
noncomputable def yB.l1 (a1:Int) (s10:Int × (List Int) × (List wFr)):Option (Lp (Int × (List Int) × (List wFr)) (List Int)):=
 if s10.1<a1 then
  bnd (ya s10.2.2) fun x19=>
  bnd (idx s10.2.2 x19) fun x20=>
  bnd (some x20.fN) fun q21=>match q21 with
   | none=>
    none
   | some z22=>
    bnd (vi z22) fun x24=>
    bnd (if x20.fNext=(x24.fItems.length:Int) then
     bnd (zL s10.2.2) fun x29=>
     some x29.2
    else
     some s10.2.2:Option (List wFr)) fun t26=>
    bnd (ya t26) fun x31=>
    bnd (idx t26 x31) fun x32=>
    bnd (some x32.fN) fun q33=>match q33 with
     | none=>
      none
     | some z34=>
      bnd (vi z34) fun x36=>
      bnd (idx x36.fItems x32.fNext) fun x38=>
      bnd (yo s10.1 x38 s10.2.1) fun x39=>
      some (Lp.next (w64 (s10.1+1),x39,(t26.set x31.toNat (⟨x32.fN,x32.fFirst,w64 (x32.fNext+1)⟩:wFr))))
 else
  some (Lp.done s10.2.1)
noncomputable def yB (a0:Int) (a1:Int) (a2:Option NP):Option (List Int):=
 if a0=a1 then
 some []
else
 bnd (ym (⟨a2⟩:tTr)) fun x4=>
 match x4 with
| .inl x4=>
 none
| .inr x4=>
 bnd (zJ x4.1 x4.2.1 x4.2.2 0 a0) fun x5=>
 bnd (loop (yB.l1 a1) (a0,[],x5):Option (List Int)) fun t6=>
 some t6
theorem rU {a0:Int} {a1:Int} {a2:Option NP} {b0:Nat} {b1:Nat} {b2:Nat} {b3:Nat} {b4:Nat} {res:(List Int)} (h0:yB a0 a1 a2=some res):zo X 146 [.fn (.yield b0) [] [],dP b1,dP b2,dP b3] [.lp b0 .ready none [11,12] tN tM [(3,(dP b4))] 21,.var b1 [dN a0] 3,.var b2 [dN a1] 3,.var b3 [(eOP a2)] 25,.var b4 [.val (.slice none 0 0)] 76] (fun x=>.tup []) (fun x=>[.lp b0 .ready none [11,12] tN tM [(3,(dP b4))] 21,.var b1 [dN a0] 3,.var b2 [dN a1] 3,.var b3 [(eOP a2)] 25,.var b4 [.val (vn x 0)] 76,.row (vn x 0) (List.map (eI .i64) res) 1 3]):=by
 unfold yB at h0;refine zb (X:=X) Z Tryz.func146 Z Z Tryz.ntmps146 Z Z ?_;refine T.seq ?_;refine aS ?_;refine z6 (z7 1 Z Z Z Z) Z ?_;refine z6 (z7 2 Z Z Z Z) Z ?_;refine aA Z Z ?_;refine aN Z ?_;rcases z9 h0 with ⟨c1,h0⟩|⟨c1,h0⟩
 ·refine zf Z (beq_iff_eq.2 c1) ?_;refine T.ret ?_;obtain rfl:=osi h0;exact zE (ks:=[0,1,2,3,4,5]) (Gst.trans (Gst.only [] Z) (ye (ow:=[.lp b0 .ready none [11,12] tN tM [(3,(dP b4))] 21,.var b1 [dN a0] 3,.var b2 [dN a1] 3,.var b3 [(eOP a2)] 25,.var b4 [.val (.slice none 0 0)] 76]) 1 3 Z)) (.tuple #[(.slice none 0 0)]) ResL.nil Z Z Z Z
 refine ze Z (beq_eq_false_iff_ne.2 c1) ?_;refine aK Z ?_;refine aS ?_;refine TL.op (OpR.alloc Z Z (fun _=>Z)) Z (fun p2=>?_);refine aN Z ?_;refine T.seq ?_;obtain⟨x4,hx4,h0⟩:=bS h0;rcases x4 with x4|x4
 ·dsimp only at h0;exact (by cases h0)
 dsimp only at h0;obtain⟨x5,hx5,h0⟩:=bS h0;refine yA zV (fun env3=>[.agg [(eOP a2)],.nod [.sl 1 (List.map eNP x4.1),.sl 3 (List.map z8 x4.2.1),dN x4.2.2],dN a0,.tup []]) (fun D env3=>[.lp b0 .ready none [11,12] tN tM [(3,(dP b4))] 21,.var b1 [dN a0] 3,.var b2 [dN a1] 3,.var b3 [(eOP a2)] 25,.var b4 [.val (.slice none 0 0)] 76,(bif D 3 then .var (blk p2) [.val (vn (env3 3) 0)] 228 else .var (blk p2) [.val (.slice none 0 0)] 228)]++(bif D 3 then [.row (vn (env3 3) 0) (List.map yF x5) 3 234] else [])) [0,1,0,7] [0,1,2,5] _ (by decide +kernel) (by decide +kernel) (fun _=>Z) (fun _=>Z) ?_ (fun _=>Z) (fun _=>Z) ?_
 ·refine oT (.agg [(eOP a2)]) (fun _ _=>z7 3 Z Z Z Z) ?_;refine oT (.nod [.sl 1 (List.map eNP x4.1),.sl 3 (List.map z8 x4.2.1),dN x4.2.2]) (fun _ _=>zh fn148 (wb hx4) Z) ?_;refine oT ((dN a0)) (fun _ _=>z7 1 Z Z Z Z) ?_;refine zi true ?_ (fun D hA env3 x j hj hD=>match j,hj,hD with|0,_,_=>Z|1,_,_=>Z|2,_,_=>Z|3,hj,_=>absurd Z hj|_+4,_,_=>Z) ?_
  ·intro D env3 hA;exact zK [(3,false)] ⟨hA.me,trivial⟩ (Want.plain Z) (OpR.call [5] fn147 (wt hx5) Z Z Z (fun _=>Z)) (fun x=>Z) (fun x=>Z)
  exact trivial
 intro env3;show T X _ _ _;refine aS ?_;refine z6 (z7 1 Z Z Z Z) Z ?_;refine aA Z Z ?_;refine aN Z ?_;obtain⟨t6,ht6,h0⟩:=bS h0;refine T.cutN (fun S'=>∃ y7:Value,S'=⟨[],[.lp b0 .ready none [11,12] tN tM [(3,(dP b4))] 21,.var b1 [dN a0] 3,.var b2 [dN a1] 3,.var b3 [(eOP a2)] 25,.var b4 [.val y7] 76,.row y7 (List.map (eI .i64) t6) 1 3],62⟩) (fun _ _ g ⟨h,S',ds,g',r⟩=>⟨h,S',ds,Gst.trans g g',r⟩) ?_ ?_;rotate_left
 ·rintro _ ⟨y7,rfl⟩;obtain rfl:=osi h0;exact xg (ks:=[0,1,2,3,4,5]) (Gst.only [] Z) (.tuple #[y7]) ResL.nil Z Z Z Z
 refine T.block ?_;obtain⟨n11,n16⟩:=zy ht6;refine T.loop (fun n S'=>∃ S'',Gst S' S''∧∃ y8:Value,∃ y9:Value,∃ s10:Int × (List Int) × (List wFr),S''=⟨[(6,(dN s10.1)),(5,(dP (blk p2))),(2,(dP b2)),(0,.fn (.yield b0) [] [])],[.lp b0 .ready none [11,12] tN tM [(3,(dP b4))] 21,.var b1 [dN a0] 3,.var b2 [dN a1] 3,.var b3 [(eOP a2)] 25,.var b4 [.val y8] 76,.var (blk p2) [.val y9] 228,.row y8 (List.map (eI .i64) s10.2.1) 1 3,.row y9 (List.map yF s10.2.2) 3 234],62⟩∧wo (yB.l1 a1) n s10=some t6) n11 ?_ ?_
 ·exact⟨_,Gst.trans (Gst.only [0,2,5,6] Z) (Gst.trans (ye (ow:=[.lp b0 .ready none [11,12] tN tM [(3,(dP b4))] 21,.var b1 [dN a0] 3,.var b2 [dN a1] 3,.var b3 [(eOP a2)] 25,.var b4 [.val (.slice none 0 0)] 76,.var (blk p2) [.val (vn (env3 3) 0)] 228,.row (vn (env3 3) 0) (List.map yF x5) 3 234]) 1 3 Z) (Gst.pick [0,1,2,3,4,5,7,6] Z Z)),(.slice none 0 0),(vn (env3 3) 0),(a0,[],x5),Z,n16⟩
 rintro n11 _ ⟨_,g,y8,y9,s10,rfl,i15⟩;refine T.ghost g ?_;obtain⟨m12,q13,rfl,q14,i15⟩:=zz i15;unfold yB.l1 at q14;refine T.seq ?_;refine aS ?_;refine aA Z Z ?_;refine z6 (z7 2 Z Z Z Z) Z ?_;refine aA Z Z ?_;refine aN Z ?_;rcases z9 q14 with ⟨c18,q14⟩|⟨c18,q14⟩;rotate_left
 ·refine ze Z (eF c18) ?_;refine T.exit ?_;obtain rfl:=osi q14;obtain rfl:_=_:=i15;exact⟨_,gP [] [0,1,2,3,4,6] Z Z Z,y8,Z⟩
 refine zf Z (eT c18) ?_;refine aK Z ?_;refine T.seq ?_;refine T.block ?_;refine T.seq ?_;refine aS ?_;obtain⟨x19,hx19,q14⟩:=bS q14;refine z6 (OpR.call [5,7] fn149 (yy hx19) Z Z Z (fun _=>Z)) Z ?_;refine aA Z Z ?_;refine aN Z ?_;refine T.seq ?_;obtain⟨x20,hx20,q14⟩:=bS q14;obtain⟨q21,hq21,q14⟩:=bS q14;rcases q21 with _|z22
 ·dsimp only at q14;exact (by cases q14)
 dsimp only at q14;obtain⟨x24,hx24,q14⟩:=bS q14;rw[xf hx24] at hq21;refine yr zV [.val (.pointer (some ⟨blk y9,x19.toNat*3,none⟩)),.val (.pointer (some ⟨blk y9,x19.toNat*3,none⟩)),.val (.pointer (some ⟨blk y9,x19.toNat*3+2,none⟩)),dN x20.fNext,.val (.pointer (some ⟨blk y9,x19.toNat*3,none⟩)),.val (.pointer (some ⟨blk y9,x19.toNat*3,none⟩)),.val (.pointer (some ⟨blk y9,x19.toNat*3,none⟩)),.nod [.sl 1 (List.map eNP x24.fKids),.sl 3 (List.map z8 x24.fItems),dN x24.fN],.nod [.sl 1 (List.map eNP x24.fKids),.sl 3 (List.map z8 x24.fItems),dN x24.fN],.nod [.sl 3 (List.map z8 x24.fItems),dN x24.fN],.sl 3 (List.map z8 x24.fItems),dN (x24.fItems.length:Int),dT (x20.fNext==(x24.fItems.length:Int))] [0,2,5,6,35] (by decide +kernel) Z ?_ Z ?_
 ·iterate 3 refine aB rfl rfl rfl ?_
  refine zw.yes (Want.plain Z) Z (yL (j:=x19) yF 7 hx20 Z Z Z Z) ?_;iterate 3 refine aB rfl rfl rfl ?_
  refine zw.yes (Want.plain Z) Z (zk (zH (j:=x19) yF 7 hx20 Z Z Z Z) (congrArg eOP (osi hq21))) ?_;iterate 3 refine aB rfl rfl rfl ?_
  refine zw.yes (Want.plain Z) Z (zk (OpR.pure Z) (xn (w9 _ _))) ?_;refine aB Z Z Z ?_;exact zw.nil
 show T X _ _ _;obtain⟨t26,ht26,q14⟩:=bS q14;refine zA (fun S'=>∃ y27:Value,S'=⟨[(6,(dN s10.1)),(5,(dP (blk p2))),(2,(dP b2)),(0,.fn (.yield b0) [] [])],[.lp b0 .ready none [11,12] tN tM [(3,(dP b4))] 21,.var b1 [dN a0] 3,.var b2 [dN a1] 3,.var b3 [(eOP a2)] 25,.var b4 [.val y8] 76,.var (blk p2) [.val y27] 228,.row y8 (List.map (eI .i64) s10.2.1) 1 3,.row y27 (List.map yF t26) 3 234],62⟩) (fun _ h=>h) ?_ ?_
 ·rcases z9 ht26 with ⟨c28,ht26⟩|⟨c28,ht26⟩;rotate_left
  ·refine ze Z (beq_eq_false_iff_ne.2 c28) ?_;refine T.skip ?_;obtain rfl:=osi ht26;exact⟨_,Gst.only [0,2,5,6] Z,y9,Z⟩
  refine zf Z (beq_iff_eq.2 c28) ?_;refine T.region ?_;obtain⟨x29,hx29,ht26⟩:=bS ht26;refine TL.op (OpR.call [5,7] fn150 (wa hx29) Z Z Z (fun _=>Z)) Z (fun w30=>?_);refine TL.nil ?_;obtain rfl:=osi ht26;exact⟨_,Gst.only [0,2,5,6] Z,(vn w30 0),Z⟩
 rintro _ ⟨y27,rfl⟩;show T X _ _ _;refine aS ?_;obtain⟨x31,hx31,q14⟩:=bS q14;refine z6 (OpR.call [5,7] fn149 (yy hx31) Z Z Z (fun _=>Z)) Z ?_;refine aA Z Z ?_;refine aN Z ?_;refine T.seq ?_;refine T.seq ?_;obtain⟨x32,hx32,q14⟩:=bS q14;obtain⟨q33,hq33,q14⟩:=bS q14;rcases q33 with _|z34
 ·dsimp only at q14;exact (by cases q14)
 dsimp only at q14;obtain⟨x36,hx36,q14⟩:=bS q14;rw[xf hx36] at hq33;obtain⟨x38,hx38,q14⟩:=bS q14;obtain⟨x39,hx39,q14⟩:=bS q14;refine yA zV (fun env37=>[.fn (.yield b0) [] [],dN s10.1,.val (.pointer (some ⟨blk y27,x31.toNat*3,none⟩)),.val (.pointer (some ⟨blk y27,x31.toNat*3,none⟩)),.val (.pointer (some ⟨blk y27,x31.toNat*3,none⟩)),.nod [.sl 1 (List.map eNP x36.fKids),.sl 3 (List.map z8 x36.fItems),dN x36.fN],.nod [.sl 1 (List.map eNP x36.fKids),.sl 3 (List.map z8 x36.fItems),dN x36.fN],.nod [.sl 3 (List.map z8 x36.fItems),dN x36.fN],.sl 3 (List.map z8 x36.fItems),.val (.pointer (some ⟨blk y27,x31.toNat*3,none⟩)),.val (.pointer (some ⟨blk y27,x31.toNat*3,none⟩)),.val (.pointer (some ⟨blk y27,x31.toNat*3+2,none⟩)),dN x32.fNext,.nod [.sl 5 (List.map zj x38.fCells),dN x38.fEnd,dT x38.fHidden],.agg [.sl 5 (List.map zj x38.fCells),dN x38.fEnd,dT x38.fHidden],dT true,dT false]) (fun D env37=>[.lp b0 .ready none [11,12] tN tM [(3,(dP b4))] 21,.var b1 [dN a0] 3,.var b2 [dN a1] 3,.var b3 [(eOP a2)] 25,(bif D 15 then .var b4 [.val (vn (env37 15) 0)] 76 else .var b4 [.val y8] 76),.var (blk p2) [.val y27] 228,(bif D 15 then .row (vn (env37 15) 0) (List.map (eI .i64) x39) 1 3 else .row y8 (List.map (eI .i64) s10.2.1) 1 3),.row y27 (List.map yF t26) 3 234]) [0,0,0,4,12,28,60,124,252,0,512,1536,3584,8188,16380,32767,65535] [0,2,5,6,8,54] _ (by decide +kernel) (by decide +kernel) (fun _=>Z) (fun _=>Z) ?_ (fun _=>Z) (fun _=>Z) ?_;rotate_left
 ·intro env37;show T X _ _ _;refine ze Z Z ?_;refine aK Z ?_;refine T.region ?_;iterate 3 refine aA rfl rfl ?_
  refine z6 (yL (j:=x31) yF 7 hx32 Z Z Z Z) Z ?_;iterate 3 refine aA rfl rfl ?_
  refine zv (un (j:=x31) yF (⟨x32.fN,x32.fFirst,w64 (x32.fNext+1)⟩:wFr) 7 hx32 Z Z Z Z Z Z Z Z Z) ?_;refine aN Z ?_;refine T.region ?_;iterate 3 refine aA rfl rfl ?_
  refine TL.nil ?_;obtain rfl:=osi q14;exact⟨m12,Nat.lt_succ_self _,_,Gst.only [0,2,5,6] Z,(vn (env37 15) 0),y27,(w64 (s10.1+1),x39,(t26.set x31.toNat (⟨x32.fN,x32.fFirst,w64 (x32.fNext+1)⟩:wFr))),Z,i15⟩
 iterate 5 refine aC ?_
 refine oT (.nod [.sl 1 (List.map eNP x36.fKids),.sl 3 (List.map z8 x36.fItems),dN x36.fN]) (fun _ _=>zk (zH (j:=x31) yF 7 hx32 Z Z Z Z) (congrArg eOP (osi hq33))) ?_;iterate 6 refine aC ?_
 refine oT ((dN x32.fNext)) (fun _ _=>yL (j:=x31) yF 7 hx32 Z Z Z Z) ?_;refine oT (.nod [.sl 5 (List.map zj x38.fCells),dN x38.fEnd,dT x38.fHidden]) (fun _ _=>zp z8 hx38 Z Z Z Z Z) ?_;refine aC ?_;refine zi true ?_ (fun D hA env37 x j hj hD=>match j,hj,hD with|0,_,_=>Z|1,_,_=>Z|2,_,_=>Z|3,_,_=>Z|4,_,_=>Z|5,_,_=>Z|6,_,_=>Z|7,_,_=>Z|8,_,_=>Z|9,_,_=>Z|10,_,_=>Z|11,_,_=>Z|12,_,_=>Z|13,_,_=>Z|14,_,_=>Z|15,hj,_=>absurd Z hj|16,_,_=>Z|_+17,_,_=>Z) ?_
 ·intro D env37 hA;exact zK [(15,false)] ⟨hA.me,trivial⟩ (Want.plain Z) (qr [0,4,6] Z (rr hx39) Z Z Z (fun _=>Z)) (fun x=>Z) (fun x=>Z)
 refine aC ?_;exact trivial
noncomputable def wU (a0:grid_Grid):Option (List Int):=
 bnd (yK a0) fun x3=>
 bnd (xF a0.fRows 0 x3) fun x4=>
 bnd (yB x4.1 x4.2.1 x4.2.2) fun x6=>
 some x6
theorem sF {a0:grid_Grid} {res:(List Int)} (h0:wU a0=some res):zo X 51 [.agg [(eOP a0.fRows.fRoot),dT a0.fTail,dN a0.fEnd]] [] (fun x=>.sl 1 (List.map (eI .i64) res)) (fun x=>[]):=by
 unfold wU at h0;refine zb (X:=X) Z Tryz.func51 Z Z Tryz.ntmps51 Z Z ?_;refine aS ?_;refine z6 (zD Z Z) Z ?_;refine aA Z Z ?_;refine aN Z ?_;refine aS ?_;refine TL.op (OpR.alloc Z Z (fun _=>Z)) Z (fun p1=>?_);refine aN Z ?_;refine T.seq ?_;refine T.seq ?_;obtain⟨x3,hx3,h0⟩:=bS h0;obtain⟨x4,hx4,h0⟩:=bS h0;refine yA zV (fun env2=>[.nod [(eOP a0.fRows.fRoot),dT a0.fTail,dN a0.fEnd],.agg [(eOP a0.fRows.fRoot)],.agg [(eOP a0.fRows.fRoot),dT a0.fTail,dN a0.fEnd],dN x3,.fn (.func 146) [] [dP (blk (vn (env2 4) 0)),dP (blk (vn (env2 4) 1)),dP (blk (vn (env2 4) 2))]]) (fun D env2=>[.var (blk p1) [.val (.slice none 0 0)] 76]++(bif D 4 then [.var (blk (vn (env2 4) 0)) [dN x4.1] 3] else [])++(bif D 4 then [.var (blk (vn (env2 4) 1)) [dN x4.2.1] 3] else [])++(bif D 4 then [.var (blk (vn (env2 4) 2)) [(eOP x4.2.2)] 25] else [])) [0,1,0,4,15] [2,3,10] _ (by decide +kernel) (by decide +kernel) (fun _=>Z) (fun _=>Z) ?_ (fun _=>Z) (fun _=>Z) ?_;rotate_left
 ·intro env2;show T X _ _ _;refine T.block ?_;obtain⟨x6,hx6,h0⟩:=bS h0;refine T.rangeN (A:=tN) (B:=tM) [3] [1,2,3,0] (.inl Z) Z Z Z Z Z fn146 Z Z (fun l5=>(rU hx6)) (fun _=>Z) (fun w7=>?_);show T X _ _ _;refine aS ?_;refine z6 (z7 0 Z Z Z Z) Z ?_;refine aA Z Z ?_;refine aN Z ?_;refine T.ret ?_;obtain rfl:=osi h0;exact zE (ks:=[]) (Gst.trans (Gst.only [2] Z) (Gst.trans (zC 4 Z Z (ReS.cons (Re.base .all) ReS.nil) (ReO.var (ReL.cons (Re.base .all) ReL.nil) (ReO.same (ReO.same (ReO.same (ReO.same ReO.nil)))))) (Gst.pick [] Z Z))) undef (cT Z ResL.nil) Z Z Z Z
 iterate 3 refine aC ?_
 refine oT ((dN x3)) (fun _ _=>zh fn22 (yQ hx3) Z) ?_;refine zi true ?_ (fun D hA env2 x j hj hD=>match j,hj,hD with|0,_,_=>Z|1,_,_=>Z|2,_,_=>Z|3,_,_=>Z|4,hj,_=>absurd Z hj|_+5,_,_=>Z) ?_
 ·intro D env2 hA;exact zK [(4,false)] ⟨hA.me,trivial⟩ (Want.plain Z) (OpR.call [] fn80 (vx hx4) Z Z Z (fun _=>Z)) (fun x=>Z) (fun x=>Z)
 exact trivial
noncomputable def xd.l1 (a0:grid_Grid) (x1:(List Int)) (s5:Int × (List row_Row)):Option (Lp (Int × (List row_Row)) (List row_Row)):=
 if s5.1<(x1.length:Int) then
 bnd (idx x1 s5.1) fun x14=>
 bnd (wJ a0 x14) fun x15=>
 bnd (idx s5.2 s5.1) fun x16=>
 some (Lp.next (w64 (s5.1+1),(s5.2.set s5.1.toNat x15.1)))
else
 some (Lp.done s5.2)
noncomputable def xd (a0:grid_Grid):Option ((List row_Row) × (List Int)):=
 bnd (wU a0) fun x1=>
 bnd (mkz 40 (x1.length:Int) ((⟨[],0,false⟩:row_Row):row_Row)) fun x2=>
 bnd (loop (xd.l1 a0 x1) (0,x2):Option (List row_Row)) fun t4=>
 some (t4,x1)
theorem sA {a0:grid_Grid} {res:(List row_Row) × (List Int)} (h0:xd a0=some res):zo X 104 [.agg [(eOP a0.fRows.fRoot),dT a0.fTail,dN a0.fEnd]] [] (fun x=>.tup [.sl 3 (List.map z8 res.1),.sl 1 (List.map (eI .i64) res.2)]) (fun x=>[]):=by
 unfold xd at h0;refine zb (X:=X) Z Tryz.func104 Z Z Tryz.ntmps104 Z Z ?_;refine aS ?_;refine z6 (zD Z Z) Z ?_;iterate 2 refine aA rfl rfl ?_
 refine aN Z ?_;refine aS ?_;refine aA Z Z ?_;obtain⟨x1,hx1,h0⟩:=bS h0;refine z6 (zh fn51 (sF hx1) Z) Z ?_;refine aA Z Z ?_;refine aN Z ?_;refine aS ?_;refine aA Z Z ?_;refine z6 (zk (OpR.pure Z) (xn (w9 _ _))) Z ?_;obtain⟨x2,hx2,h0⟩:=bS h0;refine TL.op (qo z8 hx2 Z Z Z Z Z Z Z Z Z Z (ReL.cons (Re.base .nil) (ReL.cons Re.refl (ReL.cons Re.refl ReL.nil))) Z (fun _=>Z)) Z (fun v3=>?_);refine aA Z Z ?_;refine aN Z ?_;refine T.seq ?_;refine aS ?_;refine aA Z Z ?_;refine z6 (zk (OpR.pure Z) (xn (w9 _ _))) Z ?_;refine aA Z Z ?_;refine aN Z ?_;obtain⟨t4,ht4,h0⟩:=bS h0;refine zA (fun S'=>S'=⟨[(5,.val v3),(4,.sl 1 (List.map (eI .i64) x1)),(3,.val (.slice none 0 0)),(2,.val (.slice none 0 0))],[.row v3 (List.map z8 t4) 3 49],32⟩) (fun _ h=>h) ?_ ?_;rotate_left
 ·rintro _ rfl;show T X _ _ _;refine aS ?_;iterate 4 refine aA rfl rfl ?_
  refine aN Z ?_;refine T.ret ?_;obtain rfl:=osi h0;exact zE (ks:=[]) (Gst.trans (Gst.only [2,3] Z) (Gst.trans (zC 0 Z Z (ReS.cons Re.refl (ReS.cons (Re.base .all) ReS.nil)) (ReO.same ReO.nil)) (Gst.pick [] Z Z))) undef (cT Z (cT Z ResL.nil)) Z Z Z Z
 refine T.block ?_;obtain⟨n6,n11⟩:=zy ht4;refine T.loop (fun n S'=>∃ S'',Gst S' S''∧∃ s5:Int × (List row_Row),S''=⟨[(15,(dN s5.1)),(14,(dN (x1.length:Int))),(13,.sl 1 (List.map (eI .i64) x1)),(5,.val v3),(4,.sl 1 (List.map (eI .i64) x1)),(3,.val (.slice none 0 0)),(2,.val (.slice none 0 0)),(1,.nod [(eOP a0.fRows.fRoot),dT a0.fTail,dN a0.fEnd])],[.row v3 (List.map z8 s5.2) 3 49],32⟩∧wo (xd.l1 a0 x1) n s5=some t4) n6 ?_ ?_
 ·exact⟨_,Gst.only [1,2,3,4,5,13,14,15] Z,(0,x2),Z,n11⟩
 rintro n6 _ ⟨_,g,s5,rfl,i10⟩;refine T.ghost g ?_;obtain⟨m7,q8,rfl,q9,i10⟩:=zz i10;unfold xd.l1 at q9;refine aS ?_;refine aA Z Z ?_;refine aN Z ?_;refine T.seq ?_;rcases z9 q9 with ⟨c13,q9⟩|⟨c13,q9⟩;rotate_left
 ·refine ze Z (eF c13) ?_;refine T.exit ?_;obtain rfl:=osi q9;obtain rfl:_=_:=i10;exact⟨_,Gst.only [2,3,4,5] Z,Z⟩
 refine zf Z (eT c13) ?_;refine aK Z ?_;refine T.seq ?_;refine T.block ?_;refine aS ?_;refine aA Z Z ?_;obtain⟨x14,hx14,q9⟩:=bS q9;refine z6 (zp (eI .i64) hx14 Z Z Z Z Z) Z ?_;iterate 3 refine aA rfl rfl ?_
 refine aN Z ?_;refine T.region ?_;iterate 4 refine aA rfl rfl ?_
 obtain⟨x15,hx15,q9⟩:=bS q9;refine z6 (zh fn24 (uc hx15) Z) Z ?_;iterate 3 refine aA rfl rfl ?_
 obtain⟨x16,hx16,q9⟩:=bS q9;refine z6 (zO z8 0 hx16 Z Z Z Z Z Z Z) Z ?_;refine zv (yD (j:=s5.1) z8 x15.1 0 hx16 Z Z Z Z Z Z Z Z Z) ?_;refine aN Z ?_;refine T.region ?_;iterate 2 refine aA rfl rfl ?_
 refine TL.nil ?_;obtain rfl:=osi q9;exact⟨m7,Nat.lt_succ_self _,_,Gst.only [1,2,3,4,5,13,14,15] Z,(w64 (s5.1+1),(s5.2.set s5.1.toNat x15.1)),Z,i10⟩
noncomputable def vp (a0:List order_By) (a1:List UInt8):Option (List order_By):=
 some a0
theorem tO {a0:List order_By} {a1:List UInt8} {b0:Nat} {v1:Value} {res:(List order_By)} (h0:vp a0 a1=some res):zo X 105 [dP b0,.sl 2 (List.map zg a0)] [.var b0 [.val v1] 264,.row v1 (lB a1) 1 5] (fun x=>.fn (.func 170) [] [dP (blk (vn x 0)),dP (blk (vn x 1))]) (fun x=>[.var b0 [.val v1] 264,.row v1 (lB a1) 1 5,.var (blk (vn x 0)) [.sl 2 (List.map zg res)] 104,.var (blk (vn x 1)) [dP b0] 28]):=by
 unfold vp at h0;refine zb (X:=X) Z Tryz.func105 Z Z Tryz.ntmps105 Z Z ?_;refine aS ?_;refine TL.op (xG Z Z (fun _=>Z)) Z (fun p1=>?_);refine TL.op (xG Z Z (fun _=>Z)) Z (fun p2=>?_);refine aA Z Z ?_;refine aN Z ?_;refine aS ?_;iterate 2 refine aA rfl rfl ?_
 refine aN Z ?_;refine T.ret ?_;obtain rfl:=osi h0;exact rP [0,1,2,3] [4] [0,1,3,2] Z Z Z (.tuple #[p2,p1]) (cT Z ResL.nil) Z Z Z Z
noncomputable def rC (a0:row_Row) (a1:Int):Option Bool:=
 bnd (if a1≥0 then
 some (decide (a1<(a0.fCells.length:Int)))
else
 some false:Option Bool) fun t1=>
 some t1
theorem row_Row_has_c {a0:row_Row} {a1:Int} {res:Bool} (h0:rC a0 a1=some res):zo X 158 [.agg [.sl 5 (List.map zj a0.fCells),dN a0.fEnd,dT a0.fHidden],dN a1] [] (fun x=>(dT res)) (fun x=>[]):=by
 unfold rC at h0;refine zb (X:=X) Z Tryz.func158 Z Z Tryz.ntmps158 Z Z ?_;refine aS ?_;refine z6 (zD Z Z) Z ?_;refine aA Z Z ?_;refine aN Z ?_;refine T.seq ?_;obtain⟨t1,ht1,h0⟩:=bS h0;refine zA (fun S'=>S'=⟨[(4,(dT t1))],[],14⟩) (fun _ h=>h) ?_ ?_;rotate_left
 ·rintro _ rfl;show T X _ _ _;refine T.ret ?_;obtain rfl:=osi h0;exact rO [] [4] Z undef (cT Z ResL.nil) Z Z Z Z
 refine T.region ?_;iterate 3 refine aA rfl rfl ?_
 rcases z9 ht1 with ⟨c2,ht1⟩|⟨c2,ht1⟩;rotate_left
 ·refine TL.off Z Z Z Z (eF c2) Z Z ?_;refine TL.off Z Z Z Z (eF c2) Z Z ?_;refine TL.off Z Z Z Z (eF c2) Z Z ?_;refine TL.off Z Z Z Z (eF c2) Z Z ?_;refine TL.off Z Z Z Z (eF c2) Z Z ?_;refine z6 (zx Z (eF c2) Z) Z ?_;refine aA Z Z ?_;refine TL.nil ?_;obtain rfl:=osi ht1;exact⟨_,Gst.only [4] Z,Z⟩
 refine TL.on Z Z Z Z (eT c2) ?_;refine aA Z Z ?_;refine TL.on Z Z Z Z (eT c2) ?_;refine aA Z Z ?_;refine TL.on Z Z Z Z (eT c2) ?_;refine aA Z Z ?_;refine TL.on Z Z Z Z (eT c2) ?_;refine z6 (zk (OpR.pure Z) (xn (w9 _ _))) Z ?_;refine TL.on Z Z Z Z (eT c2) ?_;refine aA Z Z ?_;refine z6 (zt Z (eT c2) Z) Z ?_;refine aA Z Z ?_;refine TL.nil ?_;obtain rfl:=osi ht1;exact⟨_,Gst.only [4] Z,Z⟩
noncomputable def rg (a0:row_Row) (a1:Int):Option (cell_Cell × Bool):=
 bnd (rC a0 a1) fun x2=>
 if x2=true then
 bnd (idx a0.fCells a1) fun x4=>
 some (x4,true)
else
 some ((⟨(⟨[],0⟩:piece_Text),(⟨0,0⟩:arena_Span),false⟩:cell_Cell),false)
theorem row_Row_At_c {a0:row_Row} {a1:Int} {res:cell_Cell × Bool} (h0:rg a0 a1=some res):zo X 111 [.agg [.sl 5 (List.map zj a0.fCells),dN a0.fEnd,dT a0.fHidden],dN a1] [] (fun x=>.tup [.agg [.sl 2 (List.map zm res.1.fText.fL),dN res.1.fText.fN,dN res.1.fRaw.fAt,dN res.1.fRaw.fN,dT res.1.fKept],dT res.2]) (fun x=>[]):=by
 unfold rg at h0;refine zb (X:=X) Z Tryz.func111 Z Z Tryz.ntmps111 Z Z ?_;refine aS ?_;refine z6 (zD Z Z) Z ?_;refine TL.op (OpR.alloc Z Z (fun _=>Z)) Z (fun p1=>?_);refine aA Z Z ?_;refine aN Z ?_;refine T.seq ?_;refine aS ?_;iterate 2 refine aA rfl rfl ?_
 obtain⟨x2,hx2,h0⟩:=bS h0;refine z6 (zh fn158 (row_Row_has_c hx2) Z) Z ?_;refine aA Z Z ?_;refine aN Z ?_;rcases z9 h0 with ⟨c3,h0⟩|⟨c3,h0⟩;rotate_left
 ·refine zf Z (zR (eN c3)) ?_;refine aS ?_;refine z6 (OpR.build Z Z Z Z Z) Z ?_;refine zv (OpR.store 0 Z Z Z Z Z Z Z Z) ?_;refine aA Z Z ?_;refine aN Z ?_;refine T.ret ?_;obtain rfl:=osi h0;exact zE (ks:=[]) (Gst.trans (Gst.only [4,5] Z) (Gst.denil (ReS.cons Re.refl (ReS.cons Re.refl ReS.nil)) (ReO.var (ReL.cons (Re.base .nil) (ReL.cons Re.refl (ReL.cons Re.refl (ReL.cons Re.refl (ReL.cons Re.refl ReL.nil))))) ReO.nil))) undef (cV 0 Z Z Z Z (cT Z ResL.nil)) Z Z Z Z
 refine ze Z (zQ (c3)) ?_;refine aK Z ?_;refine aS ?_;iterate 3 refine aA rfl rfl ?_
 obtain⟨x4,hx4,h0⟩:=bS h0;refine z6 (zp zj hx4 Z Z Z Z Z) Z ?_;refine aA Z Z ?_;refine zv (OpR.store 0 Z Z Z Z Z Z Z Z) ?_;refine aA Z Z ?_;refine aN Z ?_;refine T.ret ?_;obtain rfl:=osi h0;exact rO [] [4,5] Z undef (cV 0 Z Z Z Z (cT Z ResL.nil)) Z Z Z Z
noncomputable def vC (a0:arena_Span) (a1:List UInt8):Option Bool:=
 bnd (if a0.fAt≥0 then
 if a0.fN≥0 then
 if a0.fAt≤(a1.length:Int) then
 some (decide (a0.fN≤(w64 ((a1.length:Int)-a0.fAt))))
else
 some false
else
 some false
else
 some false:Option Bool) fun t1=>
 some t1
theorem po {a0:arena_Span} {a1:List UInt8} {b0:Nat} {v1:Value} {res:Bool} (h0:vC a0 a1=some res):zo X 261 [dP b0,.agg [dN a0.fAt,dN a0.fN]] [.var b0 [.val v1] 264,.row v1 (lB a1) 1 5] (fun x=>(dT res)) (fun x=>[.var b0 [.val v1] 264,.row v1 (lB a1) 1 5]):=by
 unfold vC at h0;refine zb (X:=X) Z Tryz.func261 Z Z Tryz.ntmps261 Z Z ?_;refine aS ?_;refine z6 (zD Z Z) Z ?_;refine aA Z Z ?_;refine aN Z ?_;refine T.seq ?_;refine aS ?_;refine aA Z Z ?_;refine z6 (qL (A:=some ⟨b0,0,none⟩) Z Z Z) Z ?_;refine aN Z ?_;refine ze Z Z ?_;refine aK Z ?_;refine T.seq ?_;obtain⟨t1,ht1,h0⟩:=bS h0;refine zA (fun S'=>S'=⟨[(4,(dT t1))],[.var b0 [.val v1] 264,.row v1 (lB a1) 1 5],38⟩) (fun _ h=>h) ?_ ?_;rotate_left
 ·rintro _ rfl;show T X _ _ _;refine T.ret ?_;obtain rfl:=osi h0;exact rO [0,1] [4] Z undef (cT Z ResL.nil) Z Z Z Z
 rcases z9 ht1 with ⟨c3,ht1⟩|⟨c3,ht1⟩;rotate_left
 ·refine yr zV [.nod [dN a0.fAt,dN a0.fN],dN a0.fAt,dT (decide (a0.fAt≥0)),dT (decide (a0.fAt≥0)),.tup [],.tup [],.tup [],dT false,dT false,.tup [],.tup [],.tup [],.tup [],.tup [],.tup [],.tup [],.tup [],dT false,dT false,.tup [],.tup [],.tup [],.tup [],.tup [],.tup [],.tup [],.tup [],.tup [],.tup [],.tup [],dT false,dT false] [4] (by decide +kernel) Z ?_ Z ?_;rotate_left
  ·obtain rfl:=osi ht1;exact⟨_,Gst.only [4] Z,Z⟩
  iterate 4 refine aB rfl rfl rfl ?_
  refine zw.no (Want.bool rfl rfl rfl rfl (by rw[(eF c3)]; rfl)) rfl ?_;refine zw.no (Want.bool rfl rfl rfl rfl (by rw[(eF c3)]; rfl)) rfl ?_;refine zw.no (Want.bool rfl rfl rfl rfl (by rw[(eF c3)]; rfl)) rfl ?_;refine zw.yes (Want.plain Z) Z (zx Z (eF c3) Z) ?_;refine aB Z Z Z ?_;refine zw.no (Want.bool Z Z Z Z Z) Z ?_;refine zw.no (Want.bool Z Z Z Z Z) Z ?_;refine zw.no (Want.bool Z Z Z Z Z) Z ?_;refine zw.no (Want.bool Z Z Z Z Z) Z ?_;refine zw.no (Want.bool Z Z Z Z Z) Z ?_;refine zw.no (Want.bool Z Z Z Z Z) Z ?_;refine zw.no (Want.bool Z Z Z Z Z) Z ?_;refine zw.no (Want.bool Z Z Z Z Z) Z ?_;refine zw.yes (Want.plain Z) Z (zx Z Z Z) ?_;refine aB Z Z Z ?_;refine zw.no (Want.bool Z Z Z Z Z) Z ?_;refine zw.no (Want.bool Z Z Z Z Z) Z ?_;refine zw.no (Want.bool Z Z Z Z Z) Z ?_;refine zw.no (Want.bool Z Z Z Z Z) Z ?_;refine zw.no (Want.bool Z Z Z Z Z) Z ?_;refine zw.no (Want.bool Z Z Z Z Z) Z ?_;refine zw.no (Want.bool Z Z Z Z Z) Z ?_;refine zw.no (Want.bool Z Z Z Z Z) Z ?_;refine zw.no (Want.bool Z Z Z Z Z) Z ?_;refine zw.no (Want.bool Z Z Z Z Z) Z ?_;refine zw.no (Want.bool Z Z Z Z Z) Z ?_;refine zw.yes (Want.plain Z) Z (zx Z Z Z) ?_;refine aB Z Z Z ?_;exact zw.nil
 rcases z9 ht1 with ⟨c4,ht1⟩|⟨c4,ht1⟩;rotate_left
 ·refine yr zV [.nod [dN a0.fAt,dN a0.fN],dN a0.fAt,dT (decide (a0.fAt≥0)),dT (decide (a0.fAt≥0)),.nod [dN a0.fN],dN a0.fN,dT (decide (a0.fN≥0)),dT (decide (a0.fN≥0)),dT (decide (a0.fN≥0)),.tup [],.tup [],.tup [],.tup [],.tup [],.tup [],.tup [],.tup [],dT false,dT false,.tup [],.tup [],.tup [],.tup [],.tup [],.tup [],.tup [],.tup [],.tup [],.tup [],.tup [],dT false,dT false] [4] (by decide +kernel) Z ?_ Z ?_;rotate_left
  ·obtain rfl:=osi ht1;exact⟨_,Gst.only [4] Z,Z⟩
  iterate 4 refine aB rfl rfl rfl ?_
  refine zw.yes (Want.bool rfl rfl rfl rfl (by rw[(eT c3)]; rfl)) rfl (OpR.pure rfl) ?_;refine zw.yes (Want.bool rfl rfl rfl rfl (by rw[(eT c3)]; rfl)) rfl (OpR.pure rfl) ?_;refine zw.yes (Want.bool rfl rfl rfl rfl (by rw[(eT c3)]; rfl)) rfl (OpR.pure rfl) ?_;refine zw.yes (Want.plain Z) Z (zt Z (eT c3) Z) ?_;refine aB Z Z Z ?_;refine zw.no (Want.bool rfl rfl rfl rfl (by rw[(eF c4)]; rfl)) rfl ?_;refine zw.no (Want.bool rfl rfl rfl rfl (by rw[(eF c4)]; rfl)) rfl ?_;refine zw.no (Want.bool rfl rfl rfl rfl (by rw[(eF c4)]; rfl)) rfl ?_;refine zw.no (Want.bool rfl rfl rfl rfl (by rw[(eF c4)]; rfl)) rfl ?_;refine zw.no (Want.bool rfl rfl rfl rfl (by rw[(eF c4)]; rfl)) rfl ?_;refine zw.no (Want.bool rfl rfl rfl rfl (by rw[(eF c4)]; rfl)) rfl ?_;refine zw.no (Want.bool rfl rfl rfl rfl (by rw[(eF c4)]; rfl)) rfl ?_;refine zw.no (Want.bool rfl rfl rfl rfl (by rw[(eF c4)]; rfl)) rfl ?_;refine zw.yes (Want.plain Z) Z (zx Z (eF c4) Z) ?_;refine aB Z Z Z ?_;refine zw.no (Want.bool Z Z Z Z Z) Z ?_;refine zw.no (Want.bool Z Z Z Z Z) Z ?_;refine zw.no (Want.bool Z Z Z Z Z) Z ?_;refine zw.no (Want.bool Z Z Z Z Z) Z ?_;refine zw.no (Want.bool Z Z Z Z Z) Z ?_;refine zw.no (Want.bool Z Z Z Z Z) Z ?_;refine zw.no (Want.bool Z Z Z Z Z) Z ?_;refine zw.no (Want.bool Z Z Z Z Z) Z ?_;refine zw.no (Want.bool Z Z Z Z Z) Z ?_;refine zw.no (Want.bool Z Z Z Z Z) Z ?_;refine zw.no (Want.bool Z Z Z Z Z) Z ?_;refine zw.yes (Want.plain Z) Z (zx Z Z Z) ?_;refine aB Z Z Z ?_;exact zw.nil
 rcases z9 ht1 with ⟨c5,ht1⟩|⟨c5,ht1⟩;rotate_left
 ·refine yr zV [.nod [dN a0.fAt,dN a0.fN],dN a0.fAt,dT (decide (a0.fAt≥0)),dT (decide (a0.fAt≥0)),.nod [dN a0.fN],dN a0.fN,dT (decide (a0.fN≥0)),dT (decide (a0.fN≥0)),dT (decide (a0.fN≥0)),.nod [dN a0.fAt,dN a0.fN],dN a0.fAt,dP b0,dP b0,dP b0,.val v1,dN (a1.length:Int),dT (decide (a0.fAt≤(a1.length:Int))),dT (decide (a0.fAt≤(a1.length:Int))),dT (decide (a0.fAt≤(a1.length:Int))),.tup [],.tup [],.tup [],.tup [],.tup [],.tup [],.tup [],.tup [],.tup [],.tup [],.tup [],dT false,dT false] [4] (by decide +kernel) Z ?_ Z ?_;rotate_left
  ·obtain rfl:=osi ht1;exact⟨_,Gst.only [4] Z,Z⟩
  iterate 4 refine aB rfl rfl rfl ?_
  refine zw.yes (Want.bool rfl rfl rfl rfl (by rw[(eT c3)]; rfl)) rfl (OpR.pure rfl) ?_;refine zw.yes (Want.bool rfl rfl rfl rfl (by rw[(eT c3)]; rfl)) rfl (OpR.pure rfl) ?_;refine zw.yes (Want.bool rfl rfl rfl rfl (by rw[(eT c3)]; rfl)) rfl (OpR.pure rfl) ?_;refine zw.yes (Want.plain Z) Z (zt Z (eT c3) Z) ?_;refine aB Z Z Z ?_;refine zw.yes (Want.bool rfl rfl rfl rfl (by rw[(eT c4)]; rfl)) rfl (OpR.pure rfl) ?_;refine zw.yes (Want.bool rfl rfl rfl rfl (by rw[(eT c4)]; rfl)) rfl (OpR.pure rfl) ?_;refine zw.yes (Want.bool rfl rfl rfl rfl (by rw[(eT c4)]; rfl)) rfl (OpR.pure rfl) ?_;refine zw.yes (Want.bool rfl rfl rfl rfl (by rw[(eT c4)]; rfl)) rfl (OpR.pure rfl) ?_;refine zw.yes (Want.bool rfl rfl rfl rfl (by rw[(eT c4)]; rfl)) rfl (OpR.pure rfl) ?_;refine zw.yes (Want.bool rfl rfl rfl rfl (by rw[(eT c4)]; rfl)) rfl (z7 0 rfl rfl rfl rfl) ?_;refine zw.yes (Want.bool rfl rfl rfl rfl (by rw[(eT c4)]; rfl)) rfl (yH ww 1 rfl rfl rfl rfl) ?_;refine zw.yes (Want.bool rfl rfl rfl rfl (by rw[(eT c4)]; rfl)) rfl (OpR.pure rfl) ?_;refine zw.yes (Want.plain Z) Z (zt Z (eT c4) Z) ?_;refine aB Z Z Z ?_;refine zw.no (Want.bool rfl rfl rfl rfl (by rw[(eF c5)]; rfl)) rfl ?_;refine zw.no (Want.bool rfl rfl rfl rfl (by rw[(eF c5)]; rfl)) rfl ?_;refine zw.no (Want.bool rfl rfl rfl rfl (by rw[(eF c5)]; rfl)) rfl ?_;refine zw.no (Want.bool rfl rfl rfl rfl (by rw[(eF c5)]; rfl)) rfl ?_;refine zw.no (Want.bool rfl rfl rfl rfl (by rw[(eF c5)]; rfl)) rfl ?_;refine zw.no (Want.bool rfl rfl rfl rfl (by rw[(eF c5)]; rfl)) rfl ?_;refine zw.no (Want.bool rfl rfl rfl rfl (by rw[(eF c5)]; rfl)) rfl ?_;refine zw.no (Want.bool rfl rfl rfl rfl (by rw[(eF c5)]; rfl)) rfl ?_;refine zw.no (Want.bool rfl rfl rfl rfl (by rw[(eF c5)]; rfl)) rfl ?_;refine zw.no (Want.bool rfl rfl rfl rfl (by rw[(eF c5)]; rfl)) rfl ?_;refine zw.no (Want.bool rfl rfl rfl rfl (by rw[(eF c5)]; rfl)) rfl ?_;refine zw.yes (Want.plain Z) Z (zx Z (eF c5) Z) ?_;refine aB Z Z Z ?_;exact zw.nil
 refine yr zV [.nod [dN a0.fAt,dN a0.fN],dN a0.fAt,dT (decide (a0.fAt≥0)),dT (decide (a0.fAt≥0)),.nod [dN a0.fN],dN a0.fN,dT (decide (a0.fN≥0)),dT (decide (a0.fN≥0)),dT (decide (a0.fN≥0)),.nod [dN a0.fAt,dN a0.fN],dN a0.fAt,dP b0,dP b0,dP b0,.val v1,dN (a1.length:Int),dT (decide (a0.fAt≤(a1.length:Int))),dT (decide (a0.fAt≤(a1.length:Int))),dT (decide (a0.fAt≤(a1.length:Int))),.nod [dN a0.fN],dN a0.fN,dP b0,dP b0,dP b0,.val v1,dN (a1.length:Int),.nod [dN a0.fAt,dN a0.fN],dN a0.fAt,dN (w64 ((a1.length:Int)-a0.fAt)),dT (decide (a0.fN≤(w64 ((a1.length:Int)-a0.fAt)))),dT (decide (a0.fN≤(w64 ((a1.length:Int)-a0.fAt)))),dT (decide (a0.fN≤(w64 ((a1.length:Int)-a0.fAt))))] [4] (by decide +kernel) Z ?_ Z ?_;rotate_left
 ·obtain rfl:=osi ht1;exact⟨_,Gst.only [4] Z,Z⟩
 iterate 4 refine aB rfl rfl rfl ?_
 refine zw.yes (Want.bool rfl rfl rfl rfl (by rw[(eT c3)]; rfl)) rfl (OpR.pure rfl) ?_;refine zw.yes (Want.bool rfl rfl rfl rfl (by rw[(eT c3)]; rfl)) rfl (OpR.pure rfl) ?_;refine zw.yes (Want.bool rfl rfl rfl rfl (by rw[(eT c3)]; rfl)) rfl (OpR.pure rfl) ?_;refine zw.yes (Want.plain Z) Z (zt Z (eT c3) Z) ?_;refine aB Z Z Z ?_;refine zw.yes (Want.bool rfl rfl rfl rfl (by rw[(eT c4)]; rfl)) rfl (OpR.pure rfl) ?_;refine zw.yes (Want.bool rfl rfl rfl rfl (by rw[(eT c4)]; rfl)) rfl (OpR.pure rfl) ?_;refine zw.yes (Want.bool rfl rfl rfl rfl (by rw[(eT c4)]; rfl)) rfl (OpR.pure rfl) ?_;refine zw.yes (Want.bool rfl rfl rfl rfl (by rw[(eT c4)]; rfl)) rfl (OpR.pure rfl) ?_;refine zw.yes (Want.bool rfl rfl rfl rfl (by rw[(eT c4)]; rfl)) rfl (OpR.pure rfl) ?_;refine zw.yes (Want.bool rfl rfl rfl rfl (by rw[(eT c4)]; rfl)) rfl (z7 0 rfl rfl rfl rfl) ?_;refine zw.yes (Want.bool rfl rfl rfl rfl (by rw[(eT c4)]; rfl)) rfl (yH ww 1 rfl rfl rfl rfl) ?_;refine zw.yes (Want.bool rfl rfl rfl rfl (by rw[(eT c4)]; rfl)) rfl (OpR.pure rfl) ?_;refine zw.yes (Want.plain Z) Z (zt Z (eT c4) Z) ?_;refine aB Z Z Z ?_;refine zw.yes (Want.bool rfl rfl rfl rfl (by rw[(eT c5)]; rfl)) rfl (OpR.pure rfl) ?_;refine zw.yes (Want.bool rfl rfl rfl rfl (by rw[(eT c5)]; rfl)) rfl (OpR.pure rfl) ?_;refine zw.yes (Want.bool rfl rfl rfl rfl (by rw[(eT c5)]; rfl)) rfl (OpR.pure rfl) ?_;refine zw.yes (Want.bool rfl rfl rfl rfl (by rw[(eT c5)]; rfl)) rfl (OpR.pure rfl) ?_;refine zw.yes (Want.bool rfl rfl rfl rfl (by rw[(eT c5)]; rfl)) rfl (OpR.pure rfl) ?_;refine zw.yes (Want.bool rfl rfl rfl rfl (by rw[(eT c5)]; rfl)) rfl (z7 0 rfl rfl rfl rfl) ?_;refine zw.yes (Want.bool rfl rfl rfl rfl (by rw[(eT c5)]; rfl)) rfl (yH ww 1 rfl rfl rfl rfl) ?_;refine zw.yes (Want.bool rfl rfl rfl rfl (by rw[(eT c5)]; rfl)) rfl (OpR.pure rfl) ?_;refine zw.yes (Want.bool rfl rfl rfl rfl (by rw[(eT c5)]; rfl)) rfl (OpR.pure rfl) ?_;refine zw.yes (Want.bool rfl rfl rfl rfl (by rw[(eT c5)]; rfl)) rfl (OpR.pure rfl) ?_;refine zw.yes (Want.bool rfl rfl rfl rfl (by rw[(eT c5)]; rfl)) rfl (OpR.pure rfl) ?_;refine zw.yes (Want.plain Z) Z (zt Z (eT c5) Z) ?_;refine aB Z Z Z ?_;exact zw.nil
noncomputable def vh (a0:arena_Span) (a1:List UInt8):Option ((Int × Int) ⊕ (List UInt8)):=
 bnd (vC a0 a1) fun x1=>
 if x1=true then
 bnd (cut a1 a0.fAt (w64 (a0.fAt+a0.fN))) fun x4=>
 some (Sum.inl (a0.fAt,w64 (a0.fAt+a0.fN)))
else
 some (Sum.inr [])
theorem sP {a0:arena_Span} {a1:List UInt8} {b0:Nat} {v1:Value} {res:(Int × Int) ⊕ (List UInt8)} (h0:vh a0 a1=some res):zo X 231 [dP b0,.agg [dN a0.fAt,dN a0.fN]] [.var b0 [.val v1] 264,.row v1 (lB a1) 1 5] (fun x=>(match res with | .inl res=>.val (vw v1 (res.1:Int).toNat (res.2:Int).toNat 1) | .inr res=>.sl 1 (lB res))) (fun x=>(match res with | .inl res=>[.var b0 [.val v1] 264,.row v1 (lB a1) 1 5] | .inr res=>[.var b0 [.val v1] 264,.row v1 (lB a1) 1 5])):=by
 unfold vh at h0;refine zb (X:=X) Z Tryz.func231 Z Z Tryz.ntmps231 Z Z ?_;refine aS ?_;refine z6 (zD Z Z) Z ?_;refine aA Z Z ?_;refine aN Z ?_;refine T.seq ?_;refine aS ?_;iterate 2 refine aA rfl rfl ?_
 obtain⟨x1,hx1,h0⟩:=bS h0;refine z6 (OpR.call [0,1] fn261 (po hx1) Z Z Z (fun _=>Z)) Z ?_;refine aA Z Z ?_;refine aN Z ?_;rcases z9 h0 with ⟨c2,h0⟩|⟨c2,h0⟩;rotate_left
 ·refine zf Z (zR (eN c2)) ?_;refine aS ?_;refine aA Z Z ?_;refine aN Z ?_;refine T.ret ?_;obtain rfl:=osi h0;exact zE (ks:=[0,1]) (Gst.trans (Gst.only [4] Z) (Gst.denil (ReS.cons (Re.base .nil) ReS.nil) (ReO.var (ReL.cons Re.refl ReL.nil) (ReO.same ReO.nil)))) undef (cT Z ResL.nil) Z Z Z Z
 refine ze Z (zQ (c2)) ?_;refine aK Z ?_;refine T.seq ?_;obtain⟨x4,hx4,h0⟩:=bS h0;refine yr zV [dP b0,dP b0,dP b0,.val v1,.nod [dN a0.fAt,dN a0.fN],dN a0.fAt,.nod [dN a0.fAt,dN a0.fN],dN a0.fAt,.nod [dN a0.fN],dN a0.fN,dN (w64 (a0.fAt+a0.fN)),.val (vw v1 (a0.fAt:Int).toNat (w64 (a0.fAt+a0.fN):Int).toNat 1),.val (vw v1 (a0.fAt:Int).toNat (w64 (a0.fAt+a0.fN):Int).toNat 1)] [4] (by decide +kernel) Z ?_ Z ?_;rotate_left
 ·show T X _ _ _;refine T.ret ?_;obtain rfl:=osi h0;exact rO [0,1] [4] Z undef (cT Z ResL.nil) Z Z Z Z
 iterate 3 refine aB rfl rfl rfl ?_
 refine zw.yes (Want.plain Z) Z (z7 0 Z Z Z Z) ?_;iterate 7 refine aB rfl rfl rfl ?_
 refine zw.yes (Want.plain Z) Z (wK ww 1 hx4 Z Z Z Z Z Z (BdM.some Z) (BdM.some Z)) ?_;refine aB Z Z Z ?_;exact zw.nil
theorem qX {a0:arena_Span} {a1:List UInt8} {b0:Nat} {v1:Value} {res:Int × Int} (h0:vh a0 a1=some (Sum.inl res)):zo X 231 [dP b0,.agg [dN a0.fAt,dN a0.fN]] [.var b0 [.val v1] 264,.row v1 (lB a1) 1 5] (fun x=>.val (vw v1 (res.1:Int).toNat (res.2:Int).toNat 1)) (fun x=>[.var b0 [.val v1] 264,.row v1 (lB a1) 1 5]):=sP h0
theorem qW {a0:arena_Span} {a1:List UInt8} {b0:Nat} {v1:Value} {res:(List UInt8)} (h0:vh a0 a1=some (Sum.inr res)):zo X 231 [dP b0,.agg [dN a0.fAt,dN a0.fN]] [.var b0 [.val v1] 264,.row v1 (lB a1) 1 5] (fun x=>.sl 1 (lB res)) (fun x=>[.var b0 [.val v1] 264,.row v1 (lB a1) 1 5]):=sP h0
noncomputable def xz (a0:arena_Span) (a1:List UInt8):Option (List UInt8):=
 bnd (vh a0 a1) fun x1=>
 match x1 with
| .inl x1=>
 bnd (cut a1 x1.1 x1.2) fun x2=>
 bnd (mkz 1 (x2.length:Int) (0:UInt8)) fun x3=>
 some (over x3 x2)
| .inr x1=>
 bnd (mkz 1 (x1.length:Int) (0:UInt8)) fun x5=>
 some (over x5 x1)
theorem v8 {a0:arena_Span} {a1:List UInt8} {b0:Nat} {v1:Value} {res:(List UInt8)} (h0:xz a0 a1=some res):zo X 201 [dP b0,.agg [dN a0.fAt,dN a0.fN]] [.var b0 [.val v1] 264,.row v1 (lB a1) 1 5] (fun x=>.sl 1 (lB res)) (fun x=>[.var b0 [.val v1] 264,.row v1 (lB a1) 1 5]):=by
 unfold xz at h0;refine zb (X:=X) Z Tryz.func201 Z Z Tryz.ntmps201 Z Z ?_;refine aS ?_;refine z6 (zD Z Z) Z ?_;refine aA Z Z ?_;refine aN Z ?_;refine aS ?_;iterate 2 refine aA rfl rfl ?_
 obtain⟨x1,hx1,h0⟩:=bS h0;rcases x1 with x1|x1;rotate_left
 ·dsimp only at h0;refine z6 (OpR.call [0,1] fn231 (qW hx1) Z Z Z (fun _=>Z)) Z ?_;refine aA Z Z ?_;refine aN Z ?_;refine aS ?_;refine aA Z Z ?_;refine z6 (zk (OpR.pure Z) (xn (w9 _ _))) Z ?_;obtain⟨x5,hx5,h0⟩:=bS h0;refine TL.op (qp ww hx5 Z Z Z Z Z Z Z Z Z Z Z (fun _=>Z)) Z (fun v6=>?_);refine aA Z Z ?_;refine aN Z ?_;refine aS ?_;iterate 2 refine aA rfl rfl ?_
  refine z6 (OpR.copyM ww 2 Z Z Z Z Z Z Z Z) Z ?_;refine aN Z ?_;refine aS ?_;iterate 2 refine aA rfl rfl ?_
  refine aN Z ?_;refine T.ret ?_;obtain rfl:=osi h0;exact zE (ks:=[0,1]) (Gst.trans (Gst.only [4] Z) (Gst.trans (zC 2 Z Z (ReS.cons (Re.base .all) ReS.nil) (ReO.same (ReO.same (ReO.same ReO.nil)))) (Gst.pick [0,1] Z Z))) undef (cT Z ResL.nil) Z Z Z Z
 dsimp only at h0;refine z6 (OpR.call [0,1] fn231 (qX hx1) Z Z Z (fun _=>Z)) Z ?_;refine aA Z Z ?_;refine aN Z ?_;refine aS ?_;refine aA Z Z ?_;obtain⟨x2,hx2,h0⟩:=bS h0;refine z6 (OpR.lenF ww (r8 ww 1 hx2 Z Z) Z Z) Z ?_;obtain⟨x3,hx3,h0⟩:=bS h0;refine TL.op (qp ww hx3 Z Z Z Z Z Z Z Z Z Z Z (fun _=>Z)) Z (fun v4=>?_);refine aA Z Z ?_;refine aN Z ?_;refine aS ?_;iterate 2 refine aA rfl rfl ?_
 refine z6 (OpR.copyF ww 2 (r8 ww 1 hx2 Z Z) Z Z Z Z Z Z Z) Z ?_;refine aN Z ?_;refine aS ?_;iterate 2 refine aA rfl rfl ?_
 refine aN Z ?_;refine T.ret ?_;obtain rfl:=osi h0;exact zE (ks:=[0,1]) (Gst.trans (Gst.only [4] Z) (Gst.trans (zC 2 Z Z (ReS.cons (Re.base .all) ReS.nil) (ReO.same (ReO.same (ReO.same ReO.nil)))) (Gst.pick [0,1] Z Z))) undef (cT Z ResL.nil) Z Z Z Z
noncomputable def yI.l1 (a0:piece_Text) (a1:List UInt8) (s4:Int × (List UInt8)):Option (Lp (Int × (List UInt8)) (List UInt8)):=
 if s4.1<(a0.fL.length:Int) then
 bnd (idx a0.fL s4.1) fun x13=>
 bnd (xz x13 a1) fun x15=>
 bnd (app 1 s4.2 x15) fun x16=>
 some (Lp.next (w64 (s4.1+1),x16))
else
 some (Lp.done s4.2)
noncomputable def yI (a0:piece_Text) (a1:List UInt8):Option (List UInt8):=
 bnd (loop (yI.l1 a0 a1) (0,[]):Option (List UInt8)) fun t1=>
 some t1
theorem piece_Text_Flat_c {a0:piece_Text} {a1:List UInt8} {b0:Nat} {v1:Value} {res:(List UInt8)} (h0:yI a0 a1=some res):zo X 183 [.agg [.sl 2 (List.map zm a0.fL),dN a0.fN],dP b0] [.var b0 [.val v1] 264,.row v1 (lB a1) 1 5] (fun x=>.sl 1 (lB res)) (fun x=>[.var b0 [.val v1] 264,.row v1 (lB a1) 1 5]):=by
 unfold yI at h0;refine zb (X:=X) Z Tryz.func183 Z Z Tryz.ntmps183 Z Z ?_;refine aS ?_;refine z6 (zD Z Z) Z ?_;refine aA Z Z ?_;refine aN Z ?_;refine aS ?_;refine aA Z Z ?_;refine aN Z ?_;refine T.seq ?_;refine aS ?_;iterate 2 refine aA rfl rfl ?_
 refine z6 (zk (OpR.pure Z) (xn (w9 _ _))) Z ?_;refine aA Z Z ?_;refine aN Z ?_;obtain⟨t1,ht1,h0⟩:=bS h0;refine zA (fun S'=>∃ y2:Value,S'=⟨[(5,.val y2),(4,.val (.slice none 0 0))],[.var b0 [.val v1] 264,.row v1 (lB a1) 1 5,.row y2 (lB t1) 1 5],22⟩) (fun _ h=>h) ?_ ?_;rotate_left
 ·rintro _ ⟨y2,rfl⟩;show T X _ _ _;refine aS ?_;iterate 2 refine aA rfl rfl ?_
  refine aN Z ?_;refine T.ret ?_;obtain rfl:=osi h0;exact zE (ks:=[0,1]) (Gst.trans (Gst.only [4] Z) (Gst.trans (zC 2 Z Z (ReS.cons (Re.base .all) ReS.nil) (ReO.same (ReO.same (ReO.same ReO.nil)))) (Gst.pick [0,1] Z Z))) undef (cT Z ResL.nil) Z Z Z Z
 refine T.block ?_;obtain⟨n5,n10⟩:=zy ht1;refine T.loop (fun n S'=>∃ S'',Gst S' S''∧∃ y3:Value,∃ s4:Int × (List UInt8),S''=⟨[(11,(dN s4.1)),(10,(dN (a0.fL.length:Int))),(9,.sl 2 (List.map zm a0.fL)),(5,.val y3),(4,.val (.slice none 0 0)),(1,(dP b0))],[.var b0 [.val v1] 264,.row v1 (lB a1) 1 5,.row y3 (lB s4.2) 1 5],22⟩∧wo (yI.l1 a0 a1) n s4=some t1) n5 ?_ ?_
 ·exact⟨_,Gst.trans (Gst.only [1,4,5,9,10,11] Z) (ye (ow:=[.var b0 [.val v1] 264,.row v1 (lB a1) 1 5]) 1 5 Z),(.slice none 0 0),(0,[]),Z,n10⟩
 rintro n5 _ ⟨_,g,y3,s4,rfl,i9⟩;refine T.ghost g ?_;obtain⟨m6,q7,rfl,q8,i9⟩:=zz i9;unfold yI.l1 at q8;refine aS ?_;refine aA Z Z ?_;refine aN Z ?_;refine T.seq ?_;rcases z9 q8 with ⟨c12,q8⟩|⟨c12,q8⟩;rotate_left
 ·refine ze Z (eF c12) ?_;refine T.exit ?_;obtain rfl:=osi q8;obtain rfl:_=_:=i9;exact⟨_,Gst.only [4,5] Z,y3,Z⟩
 refine zf Z (eT c12) ?_;refine aK Z ?_;refine T.seq ?_;refine T.block ?_;refine aS ?_;obtain⟨x13,hx13,q8⟩:=bS q8;refine z6 (zp zm hx13 Z Z Z Z Z) Z ?_;refine aA Z Z ?_;refine TL.op (OpR.alloc Z Z (fun _=>Z)) Z (fun p14=>?_);refine zv (OpR.store 3 Z Z Z Z Z Z Z Z) ?_;refine aN Z ?_;refine T.region ?_;iterate 2 refine aA rfl rfl ?_
 refine z6 (z7 3 Z Z Z Z) Z ?_;obtain⟨x15,hx15,q8⟩:=bS q8;refine z6 (OpR.call [0,1] fn201 (v8 hx15) Z Z Z (fun _=>Z)) Z ?_;obtain⟨x16,hx16,q8⟩:=bS q8;refine TL.op (zM (m:=x15) ww 2 hx16 Z Z Z Z Z Z Z Z Z (fun _=>Z)) Z (fun v17=>?_);refine aA Z Z ?_;refine aN Z ?_;refine T.region ?_;iterate 2 refine aA rfl rfl ?_
 refine TL.nil ?_;obtain rfl:=osi q8;exact⟨m6,Nat.lt_succ_self _,_,gP [1,4,5,9,10,11] [0,1,2] Z Z Z,v17,(w64 (s4.1+1),x16),Z,i9⟩
noncomputable def xb (a0:cell_Cell) (a1:List UInt8):Option (List UInt8):=
 bnd (yI a0.fText a1) fun x1=>
 some x1
theorem wV {a0:cell_Cell} {a1:List UInt8} {b0:Nat} {v1:Value} {res:(List UInt8)} (h0:xb a0 a1=some res):zo X 113 [.agg [.sl 2 (List.map zm a0.fText.fL),dN a0.fText.fN,dN a0.fRaw.fAt,dN a0.fRaw.fN,dT a0.fKept],dP b0] [.var b0 [.val v1] 264,.row v1 (lB a1) 1 5] (fun x=>.sl 1 (lB res)) (fun x=>[.var b0 [.val v1] 264,.row v1 (lB a1) 1 5]):=by
 unfold xb at h0;refine zb (X:=X) Z Tryz.func113 Z Z Tryz.ntmps113 Z Z ?_;refine aS ?_;refine z6 (zD Z Z) Z ?_;refine aA Z Z ?_;refine aN Z ?_;refine aS ?_;iterate 3 refine aA rfl rfl ?_
 obtain⟨x1,hx1,h0⟩:=bS h0;refine z6 (OpR.call [0,1] fn183 (piece_Text_Flat_c hx1) Z Z Z (fun _=>Z)) Z ?_;refine aA Z Z ?_;refine aN Z ?_;refine T.ret ?_;obtain rfl:=osi h0;exact rO [0,1] [4] Z undef (cT Z ResL.nil) Z Z Z Z
noncomputable def tn (a0:row_Row) (a1:Int) (a2:List UInt8):Option (List UInt8):=
 bnd (rg a0 a1) fun x1=>
 bnd (xb x1.1 a2) fun x3=>
 some x3
theorem order_text_c {a0:row_Row} {a1:Int} {a2:List UInt8} {b0:Nat} {v1:Value} {res:(List UInt8)} (h0:tn a0 a1 a2=some res):zo X 172 [.agg [.sl 5 (List.map zj a0.fCells),dN a0.fEnd,dT a0.fHidden],dP b0,dN a1] [.var b0 [.val v1] 264,.row v1 (lB a2) 1 5] (fun x=>.sl 1 (lB res)) (fun x=>[.var b0 [.val v1] 264,.row v1 (lB a2) 1 5]):=by
 unfold tn at h0;refine zb (X:=X) Z Tryz.func172 Z Z Tryz.ntmps172 Z Z ?_;refine aS ?_;refine z6 (zD Z Z) Z ?_;refine aA Z Z ?_;refine aN Z ?_;refine aS ?_;iterate 2 refine aA rfl rfl ?_
 obtain⟨x1,hx1,h0⟩:=bS h0;refine z6 (zh fn111 (row_Row_At_c hx1) Z) Z ?_;iterate 3 refine aA rfl rfl ?_
 refine TL.op (OpR.alloc Z Z (fun _=>Z)) Z (fun p2=>?_);refine zv (OpR.store 2 Z Z Z Z Z Z Z Z) ?_;refine aA Z Z ?_;refine aN Z ?_;refine aS ?_;refine z6 (z7 2 Z Z Z Z) Z ?_;refine aA Z Z ?_;obtain⟨x3,hx3,h0⟩:=bS h0;refine z6 (OpR.call [0,1] fn113 (wV hx3) Z Z Z (fun _=>Z)) Z ?_;refine aA Z Z ?_;refine aN Z ?_;refine T.ret ?_;obtain rfl:=osi h0;exact rP [0,1] [6] [0,1] Z Z Z undef (cT Z ResL.nil) Z Z Z Z
noncomputable def pw (a0:List UInt8):Option (Bool × (List UInt8)):=
 if (a0.length:Int)=0 then
 some (false,a0)
else
 bnd (idx a0 0) fun x2=>
 if (x2.toNat:Int)=45 then
 bnd (cut a0 1 (a0.length:Int)) fun x5=>
 some (true,x5)
else
 if (x2.toNat:Int)=43 then
 bnd (cut a0 1 (a0.length:Int)) fun x8=>
 some (false,x8)
else
 some (false,a0)
theorem num_sign_c {a0:List UInt8} {res:Bool × (List UInt8)} (h0:pw a0=some res):zo X 237 [.sl 1 (lB a0)] [] (fun x=>.tup [dT res.1,.sl 1 (lB res.2)]) (fun x=>[]):=by
 unfold pw at h0;refine zb (X:=X) Z Tryz.func237 Z Z Tryz.ntmps237 Z Z ?_;refine aS ?_;iterate 2 refine aA rfl rfl ?_
 refine aN Z ?_;refine T.seq ?_;refine aS ?_;refine aA Z Z ?_;refine z6 (zk (OpR.pure Z) (xn (w9 _ _))) Z ?_;refine aA Z Z ?_;refine aN Z ?_;rcases z9 h0 with ⟨c1,h0⟩|⟨c1,h0⟩
 ·refine zf Z (beq_iff_eq.2 c1) ?_;refine aS ?_;iterate 3 refine aA rfl rfl ?_
  refine aN Z ?_;refine T.ret ?_;obtain rfl:=osi h0;exact rO [] [2,3] Z undef (cT Z (cT Z ResL.nil)) Z Z Z Z
 refine ze Z (beq_eq_false_iff_ne.2 c1) ?_;refine aK Z ?_;refine T.seq ?_;refine aS ?_;refine aA Z Z ?_;obtain⟨x2,hx2,h0⟩:=bS h0;refine z6 (zp ww hx2 Z Z Z Z Z) Z ?_;refine aA Z Z ?_;refine aN Z ?_;refine T.block ?_;refine aS ?_;iterate 2 refine aA rfl rfl ?_
 refine aN Z ?_;rcases z9 h0 with ⟨c3,h0⟩|⟨c3,h0⟩
 ·refine zf Z (beq_iff_eq.2 c3) ?_;refine T.seq ?_;obtain⟨x5,hx5,h0⟩:=bS h0;refine yr zV [.sl 1 (lB a0),.sl 1 (lB x5),dT true,.sl 1 (lB x5)] [0,2,3] (by decide +kernel) Z ?_ Z ?_;rotate_left
  ·show T X _ _ _;refine T.ret ?_;obtain rfl:=osi h0;exact rO [] [2,3] Z undef (cT Z (cT Z ResL.nil)) Z Z Z Z
  refine aB Z Z Z ?_;refine zw.yes (Want.plain Z) Z (wR (sz:=1) ww hx5 Z Z Z Z (BdM.some Z) BdM.none Z) ?_;iterate 2 refine aB rfl rfl rfl ?_
  exact zw.nil
 refine ze Z (beq_eq_false_iff_ne.2 c3) ?_;refine aS ?_;iterate 2 refine aA rfl rfl ?_
 refine aN Z ?_;rcases z9 h0 with ⟨c6,h0⟩|⟨c6,h0⟩;rotate_left
 ·refine ze Z (beq_eq_false_iff_ne.2 c6) ?_;refine aK Z ?_;refine aS ?_;iterate 3 refine aA rfl rfl ?_
  refine aN Z ?_;refine T.ret ?_;obtain rfl:=osi h0;exact rO [] [2,3] Z undef (cT Z (cT Z ResL.nil)) Z Z Z Z
 refine zf Z (beq_iff_eq.2 c6) ?_;refine T.seq ?_;obtain⟨x8,hx8,h0⟩:=bS h0;refine yr zV [.sl 1 (lB a0),.sl 1 (lB x8),dT false,.sl 1 (lB x8)] [0,2,3] (by decide +kernel) Z ?_ Z ?_;rotate_left
 ·show T X _ _ _;refine T.ret ?_;obtain rfl:=osi h0;exact rO [] [2,3] Z undef (cT Z (cT Z ResL.nil)) Z Z Z Z
 refine aB Z Z Z ?_;refine zw.yes (Want.plain Z) Z (wR (sz:=1) ww hx8 Z Z Z Z (BdM.some Z) BdM.none Z) ?_;iterate 2 refine aB rfl rfl rfl ?_
 exact zw.nil
noncomputable def sk (a0:UInt8):Option (Int × Bool):=
 bnd (if (a0.toNat:Int)<48 then
 some true
else
 some (decide ((a0.toNat:Int)>57)):Option Bool) fun t1=>
 if t1=true then
 some (0,false)
else
 some (IntKind.wrap .u64 ((ub ((a0.toNat:Int)-48)).toNat:Int),true)
theorem num_digit_c {a0:UInt8} {res:Int × Bool} (h0:sk a0=some res):zo X 165 [.val (.int .u8 (a0.toNat:Int))] [] (fun x=>.tup [.val (.int .u64 res.1),dT res.2]) (fun x=>[]):=by
 unfold sk at h0;refine zb (X:=X) Z Tryz.func165 Z Z Tryz.ntmps165 Z Z ?_;refine aS ?_;iterate 2 refine aA rfl rfl ?_
 refine aN Z ?_;refine T.seq ?_;refine T.seq ?_;obtain⟨t1,ht1,h0⟩:=bS h0;refine zA (fun S'=>S'=⟨[(9,(dT t1)),(3,(dT false)),(2,.val (.int .u64 0)),(0,.val (.int .u8 (a0.toNat:Int)))],[],13⟩) (fun _ h=>h) ?_ ?_
 ·refine T.region ?_;iterate 3 refine aA rfl rfl ?_
  rcases z9 ht1 with ⟨c2,ht1⟩|⟨c2,ht1⟩
  ·refine TL.off Z Z Z Z (eT c2) Z Z ?_;refine TL.off Z Z Z Z (eT c2) Z Z ?_;refine z6 (zt Z (eT c2) Z) Z ?_;refine TL.nil ?_;obtain rfl:=osi ht1;exact⟨_,Gst.only [0,2,3,9] Z,Z⟩
  refine TL.on Z Z Z Z (eF c2) ?_;refine aA Z Z ?_;refine TL.on Z Z Z Z (eF c2) ?_;refine aA Z Z ?_;refine z6 (zx Z (eF c2) Z) Z ?_;refine TL.nil ?_;obtain rfl:=osi ht1;exact⟨_,Gst.only [0,2,3,9] Z,Z⟩
 rintro _ rfl;show T X _ _ _;rcases z9 h0 with ⟨c3,h0⟩|⟨c3,h0⟩
 ·refine zf Z (c3) ?_;refine aS ?_;iterate 2 refine aA rfl rfl ?_
  refine aN Z ?_;refine T.ret ?_;obtain rfl:=osi h0;exact rO [] [2,3] Z undef (cT Z (cT Z ResL.nil)) Z Z Z Z
 refine ze Z (eN c3) ?_;refine aK Z ?_;refine aS ?_;refine aA Z Z ?_;refine z6 (zk (OpR.pure Z) (xn (ub_wrap _))) Z ?_;iterate 3 refine aA rfl rfl ?_
 refine aN Z ?_;refine T.ret ?_;obtain rfl:=osi h0;exact rO [] [2,3] Z undef (cT Z (cT Z ResL.nil)) Z Z Z Z
noncomputable def xy.l1 (a0:List UInt8) (s3:Int × Int):Option (Lp (Int × Int) (Ex Int (Int × Bool))):=
 if s3.2<(a0.length:Int) then
 bnd (idx a0 s3.2) fun x12=>
 bnd (sk x12) fun x13=>
 bnd (if x13.2=true then
 bnd (some (IntKind.wrap .u64 (quo (IntKind.wrap .u64 (9223372036854775808-x13.1)) 9))) fun x16=>
 some (decide (s3.1>x16))
else
 some true:Option Bool) fun t14=>
 if t14=true then
 some (Lp.done (Ex.ret (0,false)))
else
 some (Lp.next (IntKind.wrap .u64 ((IntKind.wrap .u64 (s3.1*10))+x13.1),w64 (s3.2+1)))
else
 some (Lp.done (Ex.brk s3.1))
noncomputable def xy (a0:List UInt8):Option (Int × Bool):=
 bnd (loop (xy.l1 a0) (0,0):Option (Ex Int (Int × Bool))) fun t1=>match t1 with
| .brk u2=>
 some (u2,decide ((a0.length:Int)>0))
| .ret u2=>some u2
theorem num_magnitude_c {a0:List UInt8} {res:Int × Bool} (h0:xy a0=some res):zo X 238 [.sl 1 (lB a0)] [] (fun x=>.tup [.val (.int .u64 res.1),dT res.2]) (fun x=>[]):=by
 unfold xy at h0;refine zb (X:=X) Z Tryz.func238 Z Z Tryz.ntmps238 Z Z ?_;refine aS ?_;iterate 2 refine aA rfl rfl ?_
 refine aN Z ?_;refine aS ?_;refine aA Z Z ?_;refine aN Z ?_;refine T.seq ?_;refine aS ?_;refine aA Z Z ?_;refine z6 (zk (OpR.pure Z) (xn (w9 _ _))) Z ?_;refine aA Z Z ?_;refine aN Z ?_;obtain⟨t1,ht1,h0⟩:=bS h0;refine zA (fun S'=>∃ u2,t1=Ex.brk u2∧S'=⟨[(4,.val (.int .u64 u2)),(3,(dT false)),(2,.val (.int .u64 0)),(0,.sl 1 (lB a0))],[],39⟩) (fun _ h=>h) ?_ ?_;rotate_left
 ·rintro _ ⟨u2,rfl,rfl⟩;show T X _ _ _;refine aS ?_;iterate 2 refine aA rfl rfl ?_
  refine z6 (zk (OpR.pure Z) (xn (w9 _ _))) Z ?_;iterate 3 refine aA rfl rfl ?_
  refine aN Z ?_;refine T.ret ?_;obtain rfl:=osi h0;exact rO [] [2,3] Z undef (cT Z (cT Z ResL.nil)) Z Z Z Z
 refine T.block ?_;obtain⟨n4,n9⟩:=zy ht1;refine T.loop (fun n S'=>∃ S'',Gst S' S''∧∃ s3:Int × Int,S''=⟨[(10,(dN s3.2)),(9,(dN (a0.length:Int))),(4,.val (.int .u64 s3.1)),(3,(dT false)),(2,.val (.int .u64 0)),(0,.sl 1 (lB a0))],[],39⟩∧wo (xy.l1 a0) n s3=some t1) n4 ?_ ?_
 ·exact⟨_,Gst.only [0,2,3,4,9,10] Z,(0,0),Z,n9⟩
 rintro n4 _ ⟨_,g,s3,rfl,i8⟩;refine T.ghost g ?_;obtain⟨m5,q6,rfl,q7,i8⟩:=zz i8;unfold xy.l1 at q7;refine aS ?_;refine aA Z Z ?_;refine aN Z ?_;refine T.seq ?_;rcases z9 q7 with ⟨c11,q7⟩|⟨c11,q7⟩;rotate_left
 ·refine ze Z (eF c11) ?_;refine T.exit ?_;obtain rfl:=osi q7;obtain rfl:_=_:=i8;exact⟨_,Gst.only [0,2,3,4] Z,_,Z,Z⟩
 refine zf Z (eT c11) ?_;refine aK Z ?_;refine T.seq ?_;refine T.block ?_;refine aS ?_;iterate 2 refine aA rfl rfl ?_
 refine aN Z ?_;refine aS ?_;iterate 2 refine aA rfl rfl ?_
 obtain⟨x12,hx12,q7⟩:=bS q7;refine z6 (zp ww hx12 Z Z Z Z Z) Z ?_;refine aA Z Z ?_;obtain⟨x13,hx13,q7⟩:=bS q7;refine z6 (zh fn165 (num_digit_c hx13) Z) Z ?_;iterate 5 refine aA rfl rfl ?_
 refine aN Z ?_;refine T.seq ?_;refine T.seq ?_;obtain⟨t14,ht14,q7⟩:=bS q7;refine zA (fun S'=>S'=⟨[(29,(dT t14)),(10,(dN s3.2)),(9,(dN (a0.length:Int))),(6,.val (.int .u64 x13.1)),(4,.val (.int .u64 s3.1)),(3,(dT false)),(2,.val (.int .u64 0)),(0,.sl 1 (lB a0))],[],39⟩) (fun _ h=>h) ?_ ?_;rotate_left
 ·rintro _ rfl;show T X _ _ _;rcases z9 q7 with ⟨c17,q7⟩|⟨c17,q7⟩
  ·refine zf Z (c17) ?_;refine aS ?_;iterate 2 refine aA rfl rfl ?_
   refine aN Z ?_;refine T.ret ?_;obtain rfl:=osi q7;obtain rfl:_=_:=i8;obtain rfl:=osi h0;exact rO [] [2,3] Z undef (cT Z (cT Z ResL.nil)) Z Z Z Z
  refine ze Z (eN c17) ?_;refine aK Z ?_;refine T.region ?_;iterate 5 refine aA rfl rfl ?_
  refine aN Z ?_;refine T.region ?_;iterate 2 refine aA rfl rfl ?_
  refine TL.nil ?_;obtain rfl:=osi q7;exact⟨m5,Nat.lt_succ_self _,_,Gst.only [0,2,3,4,9,10] Z,(IntKind.wrap .u64 ((IntKind.wrap .u64 (s3.1*10))+x13.1),w64 (s3.2+1)),Z,i8⟩
 refine T.region ?_;iterate 3 refine aA rfl rfl ?_
 rcases z9 ht14 with ⟨c15,ht14⟩|⟨c15,ht14⟩;rotate_left
 ·refine TL.off Z Z Z Z (zR (eN c15)) Z Z ?_;refine TL.off Z Z Z Z (zR (eN c15)) Z Z ?_;refine TL.off Z Z Z Z (zR (eN c15)) Z Z ?_;refine TL.off Z Z Z Z (zR (eN c15)) Z Z ?_;refine TL.off Z Z Z Z (zR (eN c15)) Z Z ?_;refine z6 (zt Z (zR (eN c15)) Z) Z ?_;refine TL.nil ?_;obtain rfl:=osi ht14;exact⟨_,Gst.only [0,2,3,4,6,9,10,29] Z,Z⟩
 refine TL.on Z Z Z Z (zQ (c15)) ?_;refine aA Z Z ?_;refine TL.on Z Z Z Z (zQ (c15)) ?_;refine aA Z Z ?_;refine TL.on Z Z Z Z (zQ (c15)) ?_;refine aA Z Z ?_;refine TL.on Z Z Z Z (zQ (c15)) ?_;obtain⟨x16,hx16,ht14⟩:=bS ht14;refine z6 (zk (OpR.pure Z) (xn (osi hx16))) Z ?_;refine TL.on Z Z Z Z (zQ (c15)) ?_;refine aA Z Z ?_;refine z6 (zx Z (zQ (c15)) Z) Z ?_;refine TL.nil ?_;obtain rfl:=osi ht14;exact⟨_,Gst.only [0,2,3,4,6,9,10,29] Z,Z⟩
noncomputable def r3 (a0:List UInt8):Option (Int × Bool):=
 bnd (pw a0) fun x1=>
 bnd (xy x1.2) fun x2=>
 bnd (if x2.2=true then
 if x1.1=true then
 some false
else
 some (x2.1==9223372036854775808)
else
 some (!x2.2):Option Bool) fun t3=>
 if t3=true then
 some (0,false)
else
 if x1.1=true then
 some (w64 (IntKind.wrap .u64 (0-x2.1)),true)
else
 some (w64 x2.1,true)
theorem num_Parse_c {a0:List UInt8} {res:Int × Bool} (h0:r3 a0=some res):zo X 212 [.sl 1 (lB a0)] [] (fun x=>.tup [dN res.1,dT res.2]) (fun x=>[]):=by
 unfold r3 at h0;refine zb (X:=X) Z Tryz.func212 Z Z Tryz.ntmps212 Z Z ?_;refine aS ?_;iterate 2 refine aA rfl rfl ?_
 refine aN Z ?_;refine aS ?_;refine aA Z Z ?_;obtain⟨x1,hx1,h0⟩:=bS h0;refine z6 (zh fn237 (num_sign_c hx1) Z) Z ?_;iterate 5 refine aA rfl rfl ?_
 refine aN Z ?_;refine aS ?_;refine aA Z Z ?_;obtain⟨x2,hx2,h0⟩:=bS h0;refine z6 (zh fn238 (num_magnitude_c hx2) Z) Z ?_;iterate 5 refine aA rfl rfl ?_
 refine aN Z ?_;refine T.seq ?_;refine T.block ?_;refine T.seq ?_;refine aS ?_;iterate 3 refine aA rfl rfl ?_
 refine aN Z ?_;obtain⟨t3,ht3,h0⟩:=bS h0;refine zA (fun S'=>S'=⟨[(18,(dT t3)),(6,.val (.int .u64 x2.1)),(4,(dT x1.1)),(3,(dT false)),(2,(dN 0))],[],34⟩) (fun _ h=>h) ?_ ?_
 ·rcases z9 ht3 with ⟨c4,ht3⟩|⟨c4,ht3⟩;rotate_left
  ·refine zf Z (zR (eN c4)) ?_;refine T.skip ?_;obtain rfl:=osi ht3;exact⟨_,Gst.only [2,3,4,6,18] Z,Z⟩
  refine ze Z (zQ (c4)) ?_;refine T.region ?_;iterate 3 refine aA rfl rfl ?_
  rcases z9 ht3 with ⟨c5,ht3⟩|⟨c5,ht3⟩
  ·refine TL.off Z Z Z Z (zQ (c5)) Z Z ?_;refine TL.off Z Z Z Z (zQ (c5)) Z Z ?_;refine z6 (zx Z (zQ (c5)) Z) Z ?_;refine aA Z Z ?_;refine TL.nil ?_;obtain rfl:=osi ht3;exact⟨_,Gst.only [2,3,4,6,18] Z,Z⟩
  refine TL.on Z Z Z Z (zR (eN c5)) ?_;refine aA Z Z ?_;refine TL.on Z Z Z Z (zR (eN c5)) ?_;refine aA Z Z ?_;refine z6 (zt Z (zR (eN c5)) Z) Z ?_;refine aA Z Z ?_;refine TL.nil ?_;obtain rfl:=osi ht3;exact⟨_,Gst.only [2,3,4,6,18] Z,Z⟩
 rintro _ rfl;show T X _ _ _;rcases z9 h0 with ⟨c6,h0⟩|⟨c6,h0⟩
 ·refine zf Z (c6) ?_;refine aS ?_;iterate 2 refine aA rfl rfl ?_
  refine aN Z ?_;refine T.ret ?_;obtain rfl:=osi h0;exact rO [] [2,3] Z undef (cT Z (cT Z ResL.nil)) Z Z Z Z
 refine ze Z (eN c6) ?_;refine aS ?_;iterate 2 refine aA rfl rfl ?_
 refine aN Z ?_;rcases z9 h0 with ⟨c7,h0⟩|⟨c7,h0⟩
 ·refine zf Z (c7) ?_;refine aS ?_;iterate 5 refine aA rfl rfl ?_
  refine aN Z ?_;refine T.ret ?_;obtain rfl:=osi h0;exact rO [] [2,3] Z undef (cT Z (cT Z ResL.nil)) Z Z Z Z
 refine ze Z (eN c7) ?_;refine aK Z ?_;refine aS ?_;iterate 4 refine aA rfl rfl ?_
 refine aN Z ?_;refine T.ret ?_;obtain rfl:=osi h0;exact rO [] [2,3] Z undef (cT Z (cT Z ResL.nil)) Z Z Z Z
noncomputable def uZ (a0:Int):Option Bool:=
 some (!(a0==a0))
theorem qx {a0:Int} {res:Bool} (h0:uZ a0=some res):zo X 239 [dN a0] [] (fun x=>(dT res)) (fun x=>[]):=by
 unfold uZ at h0;refine zb (X:=X) Z Tryz.func239 Z Z Tryz.ntmps239 Z Z ?_;refine aS ?_;refine aA Z Z ?_;refine aN Z ?_;refine aS ?_;iterate 4 refine aA rfl rfl ?_
 refine aN Z ?_;refine T.ret ?_;obtain rfl:=osi h0;exact rO [] [2] Z undef (cT Z ResL.nil) Z Z Z Z
noncomputable def ud (a0:Int) (a1:Int):Option Int:=
 bnd (uZ a0) fun x1=>
 bnd (uZ a1) fun x2=>
 if x1=true then
 if x2=true then
 some 0
else
 some (-1)
else
 if x2=true then
 some 1
else
 if a0<a1 then
 some (-1)
else
 if a0>a1 then
 some 1
else
 some 0
theorem cmp_Compare_int_c {a0:Int} {a1:Int} {res:Int} (h0:ud a0 a1=some res):zo X 213 [dN a0,dN a1] [] (fun x=>(dN res)) (fun x=>[]):=by
 unfold ud at h0;refine zb (X:=X) Z Tryz.func213 Z Z Tryz.ntmps213 Z Z ?_;refine aS ?_;refine aA Z Z ?_;refine aN Z ?_;refine aS ?_;refine aA Z Z ?_;obtain⟨x1,hx1,h0⟩:=bS h0;refine z6 (zh fn239 (qx hx1) Z) Z ?_;refine aA Z Z ?_;refine aN Z ?_;refine aS ?_;refine aA Z Z ?_;obtain⟨x2,hx2,h0⟩:=bS h0;refine z6 (zh fn239 (qx hx2) Z) Z ?_;refine aA Z Z ?_;refine aN Z ?_;refine T.seq ?_;refine aS ?_;refine aA Z Z ?_;refine aN Z ?_;rcases z9 h0 with ⟨c3,h0⟩|⟨c3,h0⟩
 ·refine zf Z (c3) ?_;refine T.seq ?_;refine aS ?_;refine aA Z Z ?_;refine aN Z ?_;rcases z9 h0 with ⟨c4,h0⟩|⟨c4,h0⟩
  ·refine zf Z (c4) ?_;refine aS ?_;refine aA Z Z ?_;refine aN Z ?_;refine T.ret ?_;obtain rfl:=osi h0;exact rO [] [4] Z undef (cT Z ResL.nil) Z Z Z Z
  refine ze Z (eN c4) ?_;refine aK Z ?_;refine aS ?_;refine aA Z Z ?_;refine aN Z ?_;refine T.ret ?_;obtain rfl:=osi h0;exact rO [] [4] Z undef (cT Z ResL.nil) Z Z Z Z
 refine ze Z (eN c3) ?_;refine aK Z ?_;refine T.seq ?_;refine aS ?_;refine aA Z Z ?_;refine aN Z ?_;rcases z9 h0 with ⟨c5,h0⟩|⟨c5,h0⟩
 ·refine zf Z (c5) ?_;refine aS ?_;refine aA Z Z ?_;refine aN Z ?_;refine T.ret ?_;obtain rfl:=osi h0;exact rO [] [4] Z undef (cT Z ResL.nil) Z Z Z Z
 refine ze Z (eN c5) ?_;refine aK Z ?_;refine T.seq ?_;refine aS ?_;iterate 3 refine aA rfl rfl ?_
 refine aN Z ?_;rcases z9 h0 with ⟨c6,h0⟩|⟨c6,h0⟩
 ·refine zf Z (eT c6) ?_;refine aS ?_;refine aA Z Z ?_;refine aN Z ?_;refine T.ret ?_;obtain rfl:=osi h0;exact rO [] [4] Z undef (cT Z ResL.nil) Z Z Z Z
 refine ze Z (eF c6) ?_;refine aK Z ?_;refine T.seq ?_;refine aS ?_;iterate 3 refine aA rfl rfl ?_
 refine aN Z ?_;rcases z9 h0 with ⟨c7,h0⟩|⟨c7,h0⟩
 ·refine zf Z (eT c7) ?_;refine aS ?_;refine aA Z Z ?_;refine aN Z ?_;refine T.ret ?_;obtain rfl:=osi h0;exact rO [] [4] Z undef (cT Z ResL.nil) Z Z Z Z
 refine ze Z (eF c7) ?_;refine aK Z ?_;refine aS ?_;refine aA Z Z ?_;refine aN Z ?_;refine T.ret ?_;obtain rfl:=osi h0;exact rO [] [4] Z undef (cT Z ResL.nil) Z Z Z Z
noncomputable def uz (a0:UInt8):Option Bool:=
 some (!((a0.toNat:Int)==(a0.toNat:Int)))
theorem rR {a0:UInt8} {res:Bool} (h0:uz a0=some res):zo X 263 [.val (.int .u8 (a0.toNat:Int))] [] (fun x=>(dT res)) (fun x=>[]):=by
 unfold uz at h0;refine zb (X:=X) Z Tryz.func263 Z Z Tryz.ntmps263 Z Z ?_;refine aS ?_;refine aA Z Z ?_;refine aN Z ?_;refine aS ?_;iterate 4 refine aA rfl rfl ?_
 refine aN Z ?_;refine T.ret ?_;obtain rfl:=osi h0;exact rO [] [2] Z undef (cT Z ResL.nil) Z Z Z Z
noncomputable def vO (a0:UInt8) (a1:UInt8):Option Int:=
 bnd (uz a0) fun x1=>
 bnd (uz a1) fun x2=>
 if x1=true then
 if x2=true then
 some 0
else
 some (-1)
else
 if x2=true then
 some 1
else
 if (a0.toNat:Int)<(a1.toNat:Int) then
 some (-1)
else
 if (a0.toNat:Int)>(a1.toNat:Int) then
 some 1
else
 some 0
theorem pS {a0:UInt8} {a1:UInt8} {res:Int} (h0:vO a0 a1=some res):zo X 240 [.val (.int .u8 (a0.toNat:Int)),.val (.int .u8 (a1.toNat:Int))] [] (fun x=>(dN res)) (fun x=>[]):=by
 unfold vO at h0;refine zb (X:=X) Z Tryz.func240 Z Z Tryz.ntmps240 Z Z ?_;refine aS ?_;refine aA Z Z ?_;refine aN Z ?_;refine aS ?_;refine aA Z Z ?_;obtain⟨x1,hx1,h0⟩:=bS h0;refine z6 (zh fn263 (rR hx1) Z) Z ?_;refine aA Z Z ?_;refine aN Z ?_;refine aS ?_;refine aA Z Z ?_;obtain⟨x2,hx2,h0⟩:=bS h0;refine z6 (zh fn263 (rR hx2) Z) Z ?_;refine aA Z Z ?_;refine aN Z ?_;refine T.seq ?_;refine aS ?_;refine aA Z Z ?_;refine aN Z ?_;rcases z9 h0 with ⟨c3,h0⟩|⟨c3,h0⟩
 ·refine zf Z (c3) ?_;refine T.seq ?_;refine aS ?_;refine aA Z Z ?_;refine aN Z ?_;rcases z9 h0 with ⟨c4,h0⟩|⟨c4,h0⟩
  ·refine zf Z (c4) ?_;refine aS ?_;refine aA Z Z ?_;refine aN Z ?_;refine T.ret ?_;obtain rfl:=osi h0;exact rO [] [4] Z undef (cT Z ResL.nil) Z Z Z Z
  refine ze Z (eN c4) ?_;refine aK Z ?_;refine aS ?_;refine aA Z Z ?_;refine aN Z ?_;refine T.ret ?_;obtain rfl:=osi h0;exact rO [] [4] Z undef (cT Z ResL.nil) Z Z Z Z
 refine ze Z (eN c3) ?_;refine aK Z ?_;refine T.seq ?_;refine aS ?_;refine aA Z Z ?_;refine aN Z ?_;rcases z9 h0 with ⟨c5,h0⟩|⟨c5,h0⟩
 ·refine zf Z (c5) ?_;refine aS ?_;refine aA Z Z ?_;refine aN Z ?_;refine T.ret ?_;obtain rfl:=osi h0;exact rO [] [4] Z undef (cT Z ResL.nil) Z Z Z Z
 refine ze Z (eN c5) ?_;refine aK Z ?_;refine T.seq ?_;refine aS ?_;iterate 3 refine aA rfl rfl ?_
 refine aN Z ?_;rcases z9 h0 with ⟨c6,h0⟩|⟨c6,h0⟩
 ·refine zf Z (eT c6) ?_;refine aS ?_;refine aA Z Z ?_;refine aN Z ?_;refine T.ret ?_;obtain rfl:=osi h0;exact rO [] [4] Z undef (cT Z ResL.nil) Z Z Z Z
 refine ze Z (eF c6) ?_;refine aK Z ?_;refine T.seq ?_;refine aS ?_;iterate 3 refine aA rfl rfl ?_
 refine aN Z ?_;rcases z9 h0 with ⟨c7,h0⟩|⟨c7,h0⟩
 ·refine zf Z (eT c7) ?_;refine aS ?_;refine aA Z Z ?_;refine aN Z ?_;refine T.ret ?_;obtain rfl:=osi h0;exact rO [] [4] Z undef (cT Z ResL.nil) Z Z Z Z
 refine ze Z (eF c7) ?_;refine aK Z ?_;refine aS ?_;refine aA Z Z ?_;refine aN Z ?_;refine T.ret ?_;obtain rfl:=osi h0;exact rO [] [4] Z undef (cT Z ResL.nil) Z Z Z Z
noncomputable def yW.l1 (a0:List UInt8) (a1:List UInt8) (s12:Int):Option (Lp Int Int):=
 if s12<(a0.length:Int) then
 bnd (idx a0 s12) fun x21=>
 if s12=(a1.length:Int) then
 some (Lp.done 1)
else
 bnd (idx a1 s12) fun x23=>
 if (x21.toNat:Int)=(x23.toNat:Int) then
 some (Lp.next (w64 (s12+1)))
else
 bnd (vO x21 x23) fun x25=>
 some (Lp.done x25)
else
 some (Lp.done 0)
noncomputable def yW.l2 (a0:List UInt8) (a1:List UInt8) (s3:Unit):Option (Lp Unit Int):=
 bnd (loop (yW.l1 a0 a1) 0:Option Int) fun t11=>
 bnd (if t11=0 then
 some (decide ((a0.length:Int)<(a1.length:Int)))
else
 some false:Option Bool) fun t26=>
 if t26=true then
 some (Lp.done (-1))
else
 some (Lp.done t11)
noncomputable def yW (a0:List UInt8) (a1:List UInt8):Option Int:=
 loop (yW.l2 a0 a1) ()
theorem num_bytewise_c {a0:List UInt8} {a1:List UInt8} {res:Int} (h0:yW a0 a1=some res):zo X 214 [.sl 1 (lB a0),.sl 1 (lB a1)] [] (fun x=>(dN res)) (fun x=>[]):=by
 unfold yW at h0;refine zb (X:=X) Z Tryz.func214 Z Z Tryz.ntmps214 Z Z ?_;refine aS ?_;refine aA Z Z ?_;refine aN Z ?_;refine T.scope Z 0 Z ?_;refine aS ?_;refine aA Z Z ?_;refine aN Z ?_;refine T.seq ?_;refine T.label ?_;show T X _ _ _;obtain⟨n4,n9⟩:=zy h0;refine T.atLabelS Z ?_ (fun n S'=>∃ S'',Gst S' S''∧∃ s3:Unit,S''=⟨[(5,(dN 0)),(4,(dN 0)),(1,.sl 1 (lB a1)),(0,.sl 1 (lB a0))],[],44⟩∧wo (yW.l2 a0 a1) n s3=some res) n4 ?_ ?_
 ·rfl
 ·exact⟨_,Gst.only [0,1,4,5] Z,(),Z,n9⟩
 rintro n4 _ ⟨_,g,s3,rfl,i8⟩;refine T.ghost g ?_;obtain⟨m5,q6,rfl,q7,i8⟩:=zz i8;unfold yW.l2 at q7;refine T.seq ?_;refine aS ?_;refine aA Z Z ?_;refine z6 (zk (OpR.pure Z) (xn (w9 _ _))) Z ?_;refine aA Z Z ?_;refine aN Z ?_;obtain⟨t11,ht11,q7⟩:=bS q7;refine zA (fun S'=>S'=⟨[(5,(dN t11)),(4,(dN 0)),(1,.sl 1 (lB a1)),(0,.sl 1 (lB a0))],[],44⟩) (fun _ h=>h) ?_ ?_;rotate_left
 ·rintro _ rfl;show T X _ _ _;refine T.seq ?_;refine T.seq ?_;obtain⟨t26,ht26,q7⟩:=bS q7;refine zA (fun S'=>S'=⟨[(42,(dT t26)),(5,(dN t11)),(4,(dN 0)),(1,.sl 1 (lB a1)),(0,.sl 1 (lB a0))],[],44⟩) (fun _ h=>h) ?_ ?_;rotate_left
  ·rintro _ rfl;show T X _ _ _;rcases z9 q7 with ⟨c28,q7⟩|⟨c28,q7⟩
   ·refine zf Z (c28) ?_;refine aS ?_;refine aA Z Z ?_;refine aN Z ?_;refine T.ret ?_;obtain rfl:=osi q7;obtain rfl:_=_:=i8;exact rO [] [4] Z undef (cT Z ResL.nil) Z Z Z Z
   refine ze Z (eN c28) ?_;refine aK Z ?_;refine aS ?_;iterate 2 refine aA rfl rfl ?_
   refine aN Z ?_;refine T.ret ?_;obtain rfl:=osi q7;obtain rfl:_=_:=i8;exact rO [] [4] Z undef (cT Z ResL.nil) Z Z Z Z
  refine T.region ?_;iterate 3 refine aA rfl rfl ?_
  rcases z9 ht26 with ⟨c27,ht26⟩|⟨c27,ht26⟩;rotate_left
  ·refine TL.off Z Z Z Z (beq_eq_false_iff_ne.2 c27) Z Z ?_;refine TL.off Z Z Z Z (beq_eq_false_iff_ne.2 c27) Z Z ?_;refine TL.off Z Z Z Z (beq_eq_false_iff_ne.2 c27) Z Z ?_;refine TL.off Z Z Z Z (beq_eq_false_iff_ne.2 c27) Z Z ?_;refine TL.off Z Z Z Z (beq_eq_false_iff_ne.2 c27) Z Z ?_;refine z6 (zx Z (beq_eq_false_iff_ne.2 c27) Z) Z ?_;refine TL.nil ?_;obtain rfl:=osi ht26;exact⟨_,Gst.only [0,1,4,5,42] Z,Z⟩
  refine TL.on Z Z Z Z (beq_iff_eq.2 c27) ?_;refine aA Z Z ?_;refine TL.on Z Z Z Z (beq_iff_eq.2 c27) ?_;refine z6 (zk (OpR.pure Z) (xn (w9 _ _))) Z ?_;refine TL.on Z Z Z Z (beq_iff_eq.2 c27) ?_;refine aA Z Z ?_;refine TL.on Z Z Z Z (beq_iff_eq.2 c27) ?_;refine z6 (zk (OpR.pure Z) (xn (w9 _ _))) Z ?_;refine TL.on Z Z Z Z (beq_iff_eq.2 c27) ?_;refine aA Z Z ?_;refine z6 (zt Z (beq_iff_eq.2 c27) Z) Z ?_;refine TL.nil ?_;obtain rfl:=osi ht26;exact⟨_,Gst.only [0,1,4,5,42] Z,Z⟩
 refine T.block ?_;obtain⟨n13,n18⟩:=zy ht11;refine T.loop (fun n S'=>∃ S'',Gst S' S''∧∃ s12:Int,S''=⟨[(10,(dN s12)),(9,(dN (a0.length:Int))),(8,.sl 1 (lB a0)),(5,(dN 0)),(4,(dN 0)),(1,.sl 1 (lB a1)),(0,.sl 1 (lB a0))],[],44⟩∧wo (yW.l1 a0 a1) n s12=some t11) n13 ?_ ?_
 ·exact⟨_,Gst.only [0,1,4,5,8,9,10] Z,0,Z,n18⟩
 rintro n13 _ ⟨_,g,s12,rfl,i17⟩;refine T.ghost g ?_;obtain⟨m14,q15,rfl,q16,i17⟩:=zz i17;unfold yW.l1 at q16;refine aS ?_;refine aA Z Z ?_;refine aN Z ?_;refine T.seq ?_;rcases z9 q16 with ⟨c20,q16⟩|⟨c20,q16⟩;rotate_left
 ·refine ze Z (eF c20) ?_;refine T.exit ?_;obtain rfl:=osi q16;obtain rfl:_=_:=i17;exact⟨_,Gst.only [0,1,4,5] Z,Z⟩
 refine zf Z (eT c20) ?_;refine aK Z ?_;refine T.seq ?_;refine T.block ?_;refine aS ?_;refine aA Z Z ?_;obtain⟨x21,hx21,q16⟩:=bS q16;refine z6 (zp ww hx21 Z Z Z Z Z) Z ?_;iterate 3 refine aA rfl rfl ?_
 refine aN Z ?_;refine T.block ?_;refine aS ?_;iterate 2 refine aA rfl rfl ?_
 refine z6 (zk (OpR.pure Z) (xn (w9 _ _))) Z ?_;iterate 2 refine aA rfl rfl ?_
 refine aN Z ?_;rcases z9 q16 with ⟨c22,q16⟩|⟨c22,q16⟩
 ·refine zf Z (beq_iff_eq.2 c22) ?_;refine aS ?_;refine aA Z Z ?_;refine aN Z ?_;refine T.exit ?_;obtain rfl:=osi q16;obtain rfl:_=_:=i17;exact⟨_,Gst.only [0,1,4,5] Z,Z⟩
 refine ze Z (beq_eq_false_iff_ne.2 c22) ?_;refine aS ?_;iterate 3 refine aA rfl rfl ?_
 obtain⟨x23,hx23,q16⟩:=bS q16;refine z6 (zp ww hx23 Z Z Z Z Z) Z ?_;iterate 3 refine aA rfl rfl ?_
 refine aN Z ?_;rcases z9 q16 with ⟨c24,q16⟩|⟨c24,q16⟩
 ·refine ze Z (zQ (beq_iff_eq.2 c24)) ?_;refine aK Z ?_;refine T.region ?_;iterate 2 refine aA rfl rfl ?_
  refine TL.nil ?_;obtain rfl:=osi q16;exact⟨m14,Nat.lt_succ_self _,_,Gst.only [0,1,4,5,8,9,10] Z,w64 (s12+1),Z,i17⟩
 refine zf Z (zR (beq_eq_false_iff_ne.2 c24)) ?_;refine aS ?_;iterate 3 refine aA rfl rfl ?_
 refine z6 (zp ww hx23 Z Z Z Z Z) Z ?_;refine aA Z Z ?_;obtain⟨x25,hx25,q16⟩:=bS q16;refine z6 (zh fn240 (pS hx25) Z) Z ?_;refine aA Z Z ?_;refine aN Z ?_;refine T.exit ?_;obtain rfl:=osi q16;obtain rfl:_=_:=i17;exact⟨_,Gst.only [0,1,4,5] Z,Z⟩
noncomputable def ss (a0:List UInt8) (a1:List UInt8):Option Int:=
 bnd (r3 a0) fun x1=>
 bnd (r3 a1) fun x2=>
 bnd (if x1.2=true then
 some x2.2
else
 some false:Option Bool) fun t3=>
 if t3=true then
 bnd (ud x1.1 x2.1) fun x6=>
 some x6
else
 if x1.2=true then
 some (-1)
else
 if x2.2=true then
 some 1
else
 bnd (yW a0 a1) fun x9=>
 some x9
theorem num_Compare_c {a0:List UInt8} {a1:List UInt8} {res:Int} (h0:ss a0 a1=some res):zo X 171 [.sl 1 (lB a0),.sl 1 (lB a1)] [] (fun x=>(dN res)) (fun x=>[]):=by
 unfold ss at h0;refine zb (X:=X) Z Tryz.func171 Z Z Tryz.ntmps171 Z Z ?_;refine aS ?_;refine aA Z Z ?_;refine aN Z ?_;refine aS ?_;refine aA Z Z ?_;obtain⟨x1,hx1,h0⟩:=bS h0;refine z6 (zh fn212 (num_Parse_c hx1) Z) Z ?_;iterate 5 refine aA rfl rfl ?_
 refine aN Z ?_;refine aS ?_;refine aA Z Z ?_;obtain⟨x2,hx2,h0⟩:=bS h0;refine z6 (zh fn212 (num_Parse_c hx2) Z) Z ?_;iterate 5 refine aA rfl rfl ?_
 refine aN Z ?_;refine T.seq ?_;refine T.block ?_;refine T.seq ?_;obtain⟨t3,ht3,h0⟩:=bS h0;refine zA (fun S'=>S'=⟨[(19,(dT t3)),(8,(dT x2.2)),(7,(dN x2.1)),(6,(dT x1.2)),(5,(dN x1.1)),(4,(dN 0)),(1,.sl 1 (lB a1)),(0,.sl 1 (lB a0))],[],34⟩) (fun _ h=>h) ?_ ?_
 ·refine T.region ?_;iterate 2 refine aA rfl rfl ?_
  rcases z9 ht3 with ⟨c4,ht3⟩|⟨c4,ht3⟩
  ·refine TL.on Z Z Z Z (c4) ?_;refine aA Z Z ?_;refine z6 (zt Z (c4) Z) Z ?_;refine aA Z Z ?_;refine TL.nil ?_;obtain rfl:=osi ht3;exact⟨_,Gst.only [0,1,4,5,6,7,8,19] Z,Z⟩
  refine TL.off Z Z Z Z (eN c4) Z Z ?_;refine z6 (zx Z (eN c4) Z) Z ?_;refine aA Z Z ?_;refine TL.nil ?_;obtain rfl:=osi ht3;exact⟨_,Gst.only [0,1,4,5,6,7,8,19] Z,Z⟩
 rintro _ rfl;show T X _ _ _;rcases z9 h0 with ⟨c5,h0⟩|⟨c5,h0⟩
 ·refine zf Z (c5) ?_;refine aS ?_;iterate 2 refine aA rfl rfl ?_
  obtain⟨x6,hx6,h0⟩:=bS h0;refine z6 (zh fn213 (cmp_Compare_int_c hx6) Z) Z ?_;refine aA Z Z ?_;refine aN Z ?_;refine T.ret ?_;obtain rfl:=osi h0;exact rO [] [4] Z undef (cT Z ResL.nil) Z Z Z Z
 refine ze Z (eN c5) ?_;refine aS ?_;iterate 2 refine aA rfl rfl ?_
 refine aN Z ?_;rcases z9 h0 with ⟨c7,h0⟩|⟨c7,h0⟩
 ·refine zf Z (c7) ?_;refine aS ?_;refine aA Z Z ?_;refine aN Z ?_;refine T.ret ?_;obtain rfl:=osi h0;exact rO [] [4] Z undef (cT Z ResL.nil) Z Z Z Z
 refine ze Z (eN c7) ?_;refine aS ?_;iterate 2 refine aA rfl rfl ?_
 refine aN Z ?_;rcases z9 h0 with ⟨c8,h0⟩|⟨c8,h0⟩
 ·refine zf Z (c8) ?_;refine aS ?_;refine aA Z Z ?_;refine aN Z ?_;refine T.ret ?_;obtain rfl:=osi h0;exact rO [] [4] Z undef (cT Z ResL.nil) Z Z Z Z
 refine ze Z (eN c8) ?_;refine aK Z ?_;refine aS ?_;iterate 2 refine aA rfl rfl ?_
 obtain⟨x9,hx9,h0⟩:=bS h0;refine z6 (zh fn214 (num_bytewise_c hx9) Z) Z ?_;refine aA Z Z ?_;refine aN Z ?_;refine T.ret ?_;obtain rfl:=osi h0;exact rO [] [4] Z undef (cT Z ResL.nil) Z Z Z Z
noncomputable def yj.l1 (a0:row_Row) (a1:row_Row) (a2:List order_By) (a3:List UInt8) (s3:Int):Option (Lp Int (Ex Unit Int)):=
 if s3<(a2.length:Int) then
 bnd (idx a2 s3) fun x12=>
 bnd (tn a0 x12.fCol a3) fun x15=>
 bnd (tn a1 x12.fCol a3) fun x16=>
 bnd (ss x15 x16) fun x17=>
 bnd (if x12.fDown=true then
 some (w64 (0-x17))
else
 some x17:Option Int) fun t18=>
 if t18=0 then
 some (Lp.next (w64 (s3+1)))
else
 some (Lp.done (Ex.ret t18))
else
 some (Lp.done (Ex.brk ()))
noncomputable def yj (a0:row_Row) (a1:row_Row) (a2:List order_By) (a3:List UInt8):Option Int:=
 bnd (loop (yj.l1 a0 a1 a2 a3) 0:Option (Ex Unit Int)) fun t1=>match t1 with
| .brk u2=>
 some 0
| .ret u2=>some u2
theorem vU {a0:row_Row} {a1:row_Row} {a2:List order_By} {a3:List UInt8} {b0:Nat} {b1:Nat} {b2:Nat} {v3:Value} {res:Int} (h0:yj a0 a1 a2 a3=some res):zo X 170 [.agg [.sl 5 (List.map zj a0.fCells),dN a0.fEnd,dT a0.fHidden],.agg [.sl 5 (List.map zj a1.fCells),dN a1.fEnd,dT a1.fHidden],dP b0,dP b1] [.var b0 [.sl 2 (List.map zg a2)] 104,.var b1 [dP b2] 28,.var b2 [.val v3] 264,.row v3 (lB a3) 1 5] (fun x=>(dN res)) (fun x=>[.var b0 [.sl 2 (List.map zg a2)] 104,.var b1 [dP b2] 28,.var b2 [.val v3] 264,.row v3 (lB a3) 1 5]):=by
 unfold yj at h0;refine zb (X:=X) Z Tryz.func170 Z Z Tryz.ntmps170 Z Z ?_;refine aS ?_;refine z6 (zD Z Z) Z ?_;refine z6 (zD Z Z) Z ?_;refine aA Z Z ?_;refine aN Z ?_;refine T.seq ?_;refine aS ?_;refine z6 (z7 0 Z Z Z Z) Z ?_;refine z6 (zk (OpR.pure Z) (xn (w9 _ _))) Z ?_;refine aA Z Z ?_;refine aN Z ?_;obtain⟨t1,ht1,h0⟩:=bS h0;refine zA (fun S'=>∃ u2,t1=Ex.brk u2∧S'=⟨[(6,(dN 0))],[.var b0 [.sl 2 (List.map zg a2)] 104,.var b1 [dP b2] 28,.var b2 [.val v3] 264,.row v3 (lB a3) 1 5],35⟩) (fun _ h=>h) ?_ ?_;rotate_left
 ·rintro _ ⟨u2,rfl,rfl⟩;show T X _ _ _;refine aS ?_;refine aA Z Z ?_;refine aN Z ?_;refine T.ret ?_;obtain rfl:=osi h0;exact rO [0,1,2,3] [6] Z undef (cT Z ResL.nil) Z Z Z Z
 refine T.block ?_;obtain⟨n4,n9⟩:=zy ht1;refine T.loop (fun n S'=>∃ S'',Gst S' S''∧∃ s3:Int,S''=⟨[(12,(dN s3)),(11,(dN (a2.length:Int))),(10,.sl 2 (List.map zg a2)),(6,(dN 0)),(5,.nod [.sl 5 (List.map zj a1.fCells),dN a1.fEnd,dT a1.fHidden]),(4,.nod [.sl 5 (List.map zj a0.fCells),dN a0.fEnd,dT a0.fHidden]),(3,(dP b1))],[.var b0 [.sl 2 (List.map zg a2)] 104,.var b1 [dP b2] 28,.var b2 [.val v3] 264,.row v3 (lB a3) 1 5],35⟩∧wo (yj.l1 a0 a1 a2 a3) n s3=some t1) n4 ?_ ?_
 ·exact⟨_,Gst.only [3,4,5,6,10,11,12] Z,0,Z,n9⟩
 rintro n4 _ ⟨_,g,s3,rfl,i8⟩;refine T.ghost g ?_;obtain⟨m5,q6,rfl,q7,i8⟩:=zz i8;unfold yj.l1 at q7;refine aS ?_;refine aA Z Z ?_;refine aN Z ?_;refine T.seq ?_;rcases z9 q7 with ⟨c11,q7⟩|⟨c11,q7⟩;rotate_left
 ·refine ze Z (eF c11) ?_;refine T.exit ?_;obtain rfl:=osi q7;obtain rfl:_=_:=i8;exact⟨_,Gst.only [6] Z,_,Z,Z⟩
 refine zf Z (eT c11) ?_;refine aK Z ?_;refine T.seq ?_;refine T.block ?_;refine aS ?_;obtain⟨x12,hx12,q7⟩:=bS q7;refine z6 (zp zg hx12 Z Z Z Z Z) Z ?_;refine aA Z Z ?_;refine TL.op (OpR.alloc Z Z (fun _=>Z)) Z (fun p13=>?_);refine zv (OpR.store 4 Z Z Z Z Z Z Z Z) ?_;refine aN Z ?_;refine T.seq ?_;obtain⟨x15,hx15,q7⟩:=bS q7;obtain⟨x16,hx16,q7⟩:=bS q7;obtain⟨x17,hx17,q7⟩:=bS q7;refine yr zV [.agg [.sl 5 (List.map zj a0.fCells),dN a0.fEnd,dT a0.fHidden],dP b2,dP (blk p13),dN x12.fCol,.sl 1 (lB x15),.agg [.sl 5 (List.map zj a1.fCells),dN a1.fEnd,dT a1.fHidden],dP b2,dP (blk p13),dN x12.fCol,.sl 1 (lB x16),dN x17,dN x17] [3,4,5,6,8,9,10,11,12] (by decide +kernel) Z ?_ Z ?_
 ·refine aB Z Z Z ?_;refine zw.yes (Want.plain Z) Z (z7 1 Z Z Z Z) ?_;refine aB Z Z Z ?_;refine zw.yes (Want.plain Z) Z (z7 4 Z Z Z Z) ?_;refine zw.yes (Want.plain Z) Z (OpR.call [2,3] fn172 (order_text_c hx15) Z Z Z (fun _=>Z)) ?_;refine aB Z Z Z ?_;refine zw.yes (Want.plain Z) Z (z7 1 Z Z Z Z) ?_;refine aB Z Z Z ?_;refine zw.yes (Want.plain Z) Z (z7 4 Z Z Z Z) ?_;refine zw.yes (Want.plain Z) Z (OpR.call [2,3] fn172 (order_text_c hx16) Z Z Z (fun _=>Z)) ?_;refine zw.yes (Want.plain Z) Z (zh fn171 (num_Compare_c hx17) Z) ?_;refine aB Z Z Z ?_;exact zw.nil
 show T X _ _ _;refine T.seq ?_;refine aS ?_;refine aA Z Z ?_;refine z6 (z7 4 Z Z Z Z) Z ?_;refine aN Z ?_;obtain⟨t18,ht18,q7⟩:=bS q7;refine zA (fun S'=>S'=⟨[(12,(dN s3)),(11,(dN (a2.length:Int))),(10,.sl 2 (List.map zg a2)),(9,(dN t18)),(6,(dN 0)),(5,.nod [.sl 5 (List.map zj a1.fCells),dN a1.fEnd,dT a1.fHidden]),(4,.nod [.sl 5 (List.map zj a0.fCells),dN a0.fEnd,dT a0.fHidden]),(3,(dP b1))],[.var b0 [.sl 2 (List.map zg a2)] 104,.var b1 [dP b2] 28,.var b2 [.val v3] 264,.row v3 (lB a3) 1 5],35⟩) (fun _ h=>h) ?_ ?_
 ·rcases z9 ht18 with ⟨c19,ht18⟩|⟨c19,ht18⟩;rotate_left
  ·refine ze Z (eN c19) ?_;refine T.skip ?_;obtain rfl:=osi ht18;exact⟨_,gP [3,4,5,6,9,10,11,12] [0,1,2,3] Z Z Z,Z⟩
  refine zf Z (c19) ?_;refine T.region ?_;iterate 3 refine aA rfl rfl ?_
  refine TL.nil ?_;obtain rfl:=osi ht18;exact⟨_,gP [3,4,5,6,9,10,11,12] [0,1,2,3] Z Z Z,Z⟩
 rintro _ rfl;show T X _ _ _;refine aS ?_;iterate 2 refine aA rfl rfl ?_
 refine aN Z ?_;rcases z9 q7 with ⟨c20,q7⟩|⟨c20,q7⟩
 ·refine ze Z (zQ (beq_iff_eq.2 c20)) ?_;refine aK Z ?_;refine T.region ?_;iterate 2 refine aA rfl rfl ?_
  refine TL.nil ?_;obtain rfl:=osi q7;exact⟨m5,Nat.lt_succ_self _,_,Gst.only [3,4,5,6,10,11,12] Z,w64 (s3+1),Z,i8⟩
 refine zf Z (zR (beq_eq_false_iff_ne.2 c20)) ?_;refine aS ?_;iterate 2 refine aA rfl rfl ?_
 refine aN Z ?_;refine T.ret ?_;obtain rfl:=osi q7;obtain rfl:_=_:=i8;obtain rfl:=osi h0;exact rO [0,1,2,3] [6] Z undef (cT Z ResL.nil) Z Z Z Z
noncomputable def yX (a0:Int) (a1:Int) (a2:List row_Row) (a3:List order_By) (a4:List UInt8):Option Int:=
 bnd (idx a2 a0) fun x2=>
 bnd (idx a2 a1) fun x3=>
 bnd (yj x2 x3 a3 a4) fun x4=>
 some x4
theorem tm {a0:Int} {a1:Int} {a2:List row_Row} {a3:List order_By} {a4:List UInt8} {b0:Nat} {b1:Nat} {b2:Nat} {b3:Nat} {b4:Nat} {v5:Value} {res:Int} (h0:yX a0 a1 a2 a3 a4=some res):zo X 190 [dN a0,dN a1,dP b0,dP b1] [.var b0 [.fn (.func 170) [] [dP b2,dP b3]] 170,.var b1 [.sl 3 (List.map z8 a2)] 163,.var b2 [.sl 2 (List.map zg a3)] 104,.var b3 [dP b4] 28,.var b4 [.val v5] 264,.row v5 (lB a4) 1 5] (fun x=>(dN res)) (fun x=>[.var b0 [.fn (.func 170) [] [dP b2,dP b3]] 170,.var b1 [.sl 3 (List.map z8 a2)] 163,.var b2 [.sl 2 (List.map zg a3)] 104,.var b3 [dP b4] 28,.var b4 [.val v5] 264,.row v5 (lB a4) 1 5]):=by
 unfold yX at h0;refine zb (X:=X) Z Tryz.func190 Z Z Tryz.ntmps190 Z Z ?_;refine aS ?_;refine aA Z Z ?_;refine aN Z ?_;refine T.seq ?_;obtain⟨x2,hx2,h0⟩:=bS h0;obtain⟨x3,hx3,h0⟩:=bS h0;obtain⟨x4,hx4,h0⟩:=bS h0;refine yr zV [.fn (.func 170) [] [dP b2,dP b3],.sl 3 (List.map z8 a2),dN a0,.nod [.sl 5 (List.map zj x2.fCells),dN x2.fEnd,dT x2.fHidden],.agg [.sl 5 (List.map zj x2.fCells),dN x2.fEnd,dT x2.fHidden],.sl 3 (List.map z8 a2),dN a1,.nod [.sl 5 (List.map zj x3.fCells),dN x3.fEnd,dT x3.fHidden],.agg [.sl 5 (List.map zj x3.fCells),dN x3.fEnd,dT x3.fHidden],dN x4,dN x4] [6] (by decide +kernel) Z ?_ Z ?_;rotate_left
 ·show T X _ _ _;refine T.ret ?_;obtain rfl:=osi h0;exact rO [0,1,2,3,4,5] [6] Z undef (cT Z ResL.nil) Z Z Z Z
 refine zw.yes (Want.plain Z) Z (z7 0 Z Z Z Z) ?_;refine zw.yes (Want.plain Z) Z (z7 1 Z Z Z Z) ?_;refine aB Z Z Z ?_;refine zw.yes (Want.plain Z) Z (zp z8 hx2 Z Z Z Z Z) ?_;refine aB Z Z Z ?_;refine zw.yes (Want.plain Z) Z (z7 1 Z Z Z Z) ?_;refine aB Z Z Z ?_;refine zw.yes (Want.plain Z) Z (zp z8 hx3 Z Z Z Z Z) ?_;refine aB Z Z Z ?_;refine zw.yes (Want.plain Z) Z (vX [2,3,4,5] Z fn170 (vU hx4) Z Z Z (fun _=>Z)) ?_;refine aB Z Z Z ?_;exact zw.nil
noncomputable def wH (a0:Int) (a1:Int) (a2:List Int):Option (List Int):=
 bnd (cut a2 a0 a1) fun x1=>
 bnd (app 8 [] x1) fun x6=>
 some x6
theorem rW {a0:Int} {a1:Int} {a2:List Int} {v0:Value} {res:(List Int)} (h0:wH a0 a1 a2=some res):zo X 251 [.val (vw v0 (a0:Int).toNat (a1:Int).toNat 1)] [.row v0 (List.map (eI .i64) a2) 1 3] (fun x=>.val (vn x 0)) (fun x=>[.row v0 (List.map (eI .i64) a2) 1 3,.row (vn x 0) (List.map (eI .i64) res) 1 3]):=by
 unfold wH at h0;refine zb (X:=X) Z Tryz.func251 Z Z Tryz.ntmps251 Z Z ?_;refine aS ?_;refine aA Z Z ?_;refine aN Z ?_;refine T.seq ?_;refine aS ?_;refine aA Z Z ?_;obtain⟨x1,hx1,h0⟩:=bS h0;refine TL.isNilS (r8 (eI .i64) 0 hx1 Z Z) Z Z Z (fun b2 e3=>?_);refine aN Z ?_;rcases Bool.eq_false_or_eq_true b2 with c4|c4
 ·obtain rfl:=qK (e3 c4);rw[app_nil] at h0;refine zf Z (c4) ?_;refine aS ?_;refine aA Z Z ?_;refine aN Z ?_;refine T.ret ?_;obtain rfl:=osi h0;exact zE (ks:=[0,1]) (Gst.trans (Gst.only [2] Z) (ye (ow:=[.row v0 (List.map (eI .i64) a2) 1 3]) 1 3 Z)) (.tuple #[(.slice none 0 0)]) (cT Z ResL.nil) Z Z Z Z
 refine ze Z (c4) ?_;refine aK Z ?_;refine aS ?_;refine TL.op (sc Z Z Z Z Z Z Z Z (fun _=>Z)) Z (fun v5=>?_);refine aA Z Z ?_;obtain⟨x6,hx6,h0⟩:=bS h0;refine TL.op (OpR.appendF (m:=x1) (eI .i64) 1 hx6 (r8 (eI .i64) 0 hx1 Z Z) Z Z Z Z Z Z Z Z (fun _=>Z)) Z (fun v7=>?_);refine aA Z Z ?_;refine aN Z ?_;refine T.ret ?_;obtain rfl:=osi h0;exact rO [0,1] [2] Z (.tuple #[v7]) (cT Z ResL.nil) Z Z Z Z
noncomputable def wq.l1 (a0:List Int) (a1:List row_Row) (a2:List order_By) (a3:List UInt8) (s4:Int × Int × (List (List Int))):Option (Lp (Int × Int × (List (List Int))) (List (List Int))):=
 if s4.2.1<(a0.length:Int) then
 bnd (bnd (if (w64 (s4.2.1+1))<(a0.length:Int) then
 bnd (idx a0 s4.2.1) fun x18=>
 bnd (idx a0 (w64 (s4.2.1+1))) fun x19=>
 bnd (yX x18 x19 a1 a2 a3) fun x20=>
 some (decide (x20≤0))
else
 some false:Option Bool) fun t15=>
 if t15=true then
 some (s4.1,s4.2.2)
else
 bnd (cut a0 s4.1 (w64 (s4.2.1+1))) fun x22=>
 bnd (wH s4.1 (w64 (s4.2.1+1)) a0) fun x23=>
 bnd (app 24 s4.2.2 [x23]) fun x25=>
 some (w64 (s4.2.1+1),x25):Option (Int × (List (List Int)))) fun t13=>
 some (Lp.next (t13.1,w64 (s4.2.1+1),t13.2))
else
 some (Lp.done s4.2.2)
noncomputable def wq (a0:List Int) (a1:List row_Row) (a2:List order_By) (a3:List UInt8):Option (List (List Int)):=
 bnd (loop (wq.l1 a0 a1 a2 a3) (0,0,[]):Option (List (List Int))) fun t1=>
 some t1
theorem merge_Runs_int_c {a0:List Int} {a1:List row_Row} {a2:List order_By} {a3:List UInt8} {v0:Value} {b1:Nat} {b2:Nat} {b3:Nat} {b4:Nat} {b5:Nat} {v6:Value} {res:(List (List Int))} (h0:wq a0 a1 a2 a3=some res):zo X 224 [.val v0,.fn (.func 190) [] [dP b1,dP b2]] [.row v0 (List.map (eI .i64) a0) 1 3,.var b1 [.fn (.func 170) [] [dP b3,dP b4]] 170,.var b2 [.sl 3 (List.map z8 a1)] 163,.var b3 [.sl 2 (List.map zg a2)] 104,.var b4 [dP b5] 28,.var b5 [.val v6] 264,.row v6 (lB a3) 1 5] (fun x=>.sl 1 (List.map sL res)) (fun x=>[.row v0 (List.map (eI .i64) a0) 1 3,.var b1 [.fn (.func 170) [] [dP b3,dP b4]] 170,.var b2 [.sl 3 (List.map z8 a1)] 163,.var b3 [.sl 2 (List.map zg a2)] 104,.var b4 [dP b5] 28,.var b5 [.val v6] 264,.row v6 (lB a3) 1 5]):=by
 unfold wq at h0;refine zb (X:=X) Z Tryz.func224 Z Z Tryz.ntmps224 Z Z ?_;refine aS ?_;refine aA Z Z ?_;refine aN Z ?_;refine aS ?_;refine aA Z Z ?_;refine aN Z ?_;refine aS ?_;refine aA Z Z ?_;refine aN Z ?_;refine T.seq ?_;refine aS ?_;refine aA Z Z ?_;refine z6 (yH (eI .i64) 0 Z Z Z Z) Z ?_;refine aA Z Z ?_;refine aN Z ?_;obtain⟨t1,ht1,h0⟩:=bS h0;refine zA (fun S'=>∃ y2:Value,S'=⟨[(5,.val y2),(4,.val (.slice none 0 0))],[.row v0 (List.map (eI .i64) a0) 1 3,.var b1 [.fn (.func 170) [] [dP b3,dP b4]] 170,.var b2 [.sl 3 (List.map z8 a1)] 163,.var b3 [.sl 2 (List.map zg a2)] 104,.var b4 [dP b5] 28,.var b5 [.val v6] 264,.row v6 (lB a3) 1 5,.row y2 (List.map sL t1) 1 76],45⟩) (fun _ h=>h) ?_ ?_;rotate_left
 ·rintro _ ⟨y2,rfl⟩;show T X _ _ _;refine aS ?_;iterate 2 refine aA rfl rfl ?_
  refine aN Z ?_;refine T.ret ?_;obtain rfl:=osi h0;exact zE (ks:=[0,1,2,3,4,5,6]) (Gst.trans (Gst.only [4] Z) (Gst.trans (zC 7 Z Z (ReS.cons (Re.base .all) ReS.nil) (ReO.same (ReO.same (ReO.same (ReO.same (ReO.same (ReO.same (ReO.same (ReO.same ReO.nil))))))))) (Gst.pick [0,1,2,3,4,5,6] Z Z))) undef (cT Z ResL.nil) Z Z Z Z
 refine T.block ?_;obtain⟨n5,n10⟩:=zy ht1;refine T.loop (fun n S'=>∃ S'',Gst S' S''∧∃ y3:Value,∃ s4:Int × Int × (List (List Int)),S''=⟨[(10,(dN s4.2.1)),(9,(dN (a0.length:Int))),(6,(dN s4.1)),(5,.val y3),(4,.val (.slice none 0 0)),(1,.fn (.func 190) [] [dP b1,dP b2]),(0,.val v0)],[.row v0 (List.map (eI .i64) a0) 1 3,.var b1 [.fn (.func 170) [] [dP b3,dP b4]] 170,.var b2 [.sl 3 (List.map z8 a1)] 163,.var b3 [.sl 2 (List.map zg a2)] 104,.var b4 [dP b5] 28,.var b5 [.val v6] 264,.row v6 (lB a3) 1 5,.row y3 (List.map sL s4.2.2) 1 76],45⟩∧wo (wq.l1 a0 a1 a2 a3) n s4=some t1) n5 ?_ ?_
 ·exact⟨_,Gst.trans (Gst.only [0,1,4,5,6,9,10] Z) (ye (ow:=[.row v0 (List.map (eI .i64) a0) 1 3,.var b1 [.fn (.func 170) [] [dP b3,dP b4]] 170,.var b2 [.sl 3 (List.map z8 a1)] 163,.var b3 [.sl 2 (List.map zg a2)] 104,.var b4 [dP b5] 28,.var b5 [.val v6] 264,.row v6 (lB a3) 1 5]) 1 76 Z),(.slice none 0 0),(0,0,[]),Z,n10⟩
 rintro n5 _ ⟨_,g,y3,s4,rfl,i9⟩;refine T.ghost g ?_;obtain⟨m6,q7,rfl,q8,i9⟩:=zz i9;unfold wq.l1 at q8;refine aS ?_;refine aA Z Z ?_;refine aN Z ?_;refine T.seq ?_;rcases z9 q8 with ⟨c12,q8⟩|⟨c12,q8⟩;rotate_left
 ·refine ze Z (eF c12) ?_;refine T.exit ?_;obtain rfl:=osi q8;obtain rfl:_=_:=i9;exact⟨_,Gst.only [4,5] Z,y3,Z⟩
 refine zf Z (eT c12) ?_;refine aK Z ?_;refine T.seq ?_;obtain⟨t13,ht13,q8⟩:=bS q8;refine zA (fun S'=>∃ y14:Value,S'=⟨[(10,(dN s4.2.1)),(9,(dN (a0.length:Int))),(6,(dN t13.1)),(5,.val y14),(4,.val (.slice none 0 0)),(1,.fn (.func 190) [] [dP b1,dP b2]),(0,.val v0)],[.row v0 (List.map (eI .i64) a0) 1 3,.var b1 [.fn (.func 170) [] [dP b3,dP b4]] 170,.var b2 [.sl 3 (List.map z8 a1)] 163,.var b3 [.sl 2 (List.map zg a2)] 104,.var b4 [dP b5] 28,.var b5 [.val v6] 264,.row v6 (lB a3) 1 5,.row y14 (List.map sL t13.2) 1 76],45⟩) (fun _ h=>h) ?_ ?_;rotate_left
 ·rintro _ ⟨y14,rfl⟩;show T X _ _ _;refine T.region ?_;iterate 2 refine aA rfl rfl ?_
  refine TL.nil ?_;obtain rfl:=osi q8;exact⟨m6,Nat.lt_succ_self _,_,Gst.only [0,1,4,5,6,9,10] Z,y14,(t13.1,w64 (s4.2.1+1),t13.2),Z,i9⟩
 refine T.block ?_;refine aS ?_;iterate 2 refine aA rfl rfl ?_
 refine aN Z ?_;refine T.seq ?_;refine T.seq ?_;obtain⟨t15,ht15,ht13⟩:=bS ht13;refine zA (fun S'=>S'=⟨[(31,(dT t15)),(10,(dN s4.2.1)),(9,(dN (a0.length:Int))),(7,(dN s4.2.1)),(6,(dN s4.1)),(5,.val y3),(4,.val (.slice none 0 0)),(1,.fn (.func 190) [] [dP b1,dP b2]),(0,.val v0)],[.row v0 (List.map (eI .i64) a0) 1 3,.var b1 [.fn (.func 170) [] [dP b3,dP b4]] 170,.var b2 [.sl 3 (List.map z8 a1)] 163,.var b3 [.sl 2 (List.map zg a2)] 104,.var b4 [dP b5] 28,.var b5 [.val v6] 264,.row v6 (lB a3) 1 5,.row y3 (List.map sL s4.2.2) 1 76],45⟩) (fun _ h=>h) ?_ ?_;rotate_left
 ·rintro _ rfl;show T X _ _ _;rcases z9 ht13 with ⟨c21,ht13⟩|⟨c21,ht13⟩
  ·refine zf Z (c21) ?_;refine T.exit ?_;obtain rfl:=osi ht13;exact⟨_,Gst.only [0,1,4,5,6,9,10] Z,y3,Z⟩
  refine ze Z (eN c21) ?_;refine aK Z ?_;refine aS ?_;iterate 5 refine aA rfl rfl ?_
  obtain⟨x22,hx22,ht13⟩:=bS ht13;refine z6 (wK (eI .i64) 0 hx22 Z Z Z Z Z Z (BdM.some Z) (BdM.some Z)) Z ?_;obtain⟨x23,hx23,ht13⟩:=bS ht13;refine TL.op (OpR.call [0] fn251 (rW hx23) Z Z Z (fun _=>Z)) Z (fun w24=>?_);refine TL.ghost (zC 8 Z Z (ReS.cons (Re.base .all) (ReS.refl _)) (ReO.same (ReO.same (ReO.same (ReO.same (ReO.same (ReO.same (ReO.same (ReO.same (ReO.same ReO.nil)))))))))) ?_;refine z6 (yN Z Z Z Z Z Z Z) Z ?_;obtain⟨x25,hx25,ht13⟩:=bS ht13;refine TL.op (zM (m:=[x23]) sL 7 hx25 Z Z Z Z Z Z Z Z Z (fun _=>Z)) Z (fun v26=>?_);refine aA Z Z ?_;refine aN Z ?_;refine T.region ?_;iterate 3 refine aA rfl rfl ?_
  refine TL.nil ?_;obtain rfl:=osi ht13;exact⟨_,gP [0,1,4,5,6,9,10] [0,1,2,3,4,5,6,7] Z Z Z,v26,Z⟩
 rcases z9 ht15 with ⟨c17,ht15⟩|⟨c17,ht15⟩;rotate_left
 ·refine yr zV [dN s4.2.1,dN (w64 (s4.2.1+1)),.val v0,dN (a0.length:Int),dT (decide ((w64 (s4.2.1+1))<(a0.length:Int))),dT (decide ((w64 (s4.2.1+1))<(a0.length:Int))),.tup [],.tup [],.tup [],.tup [],.tup [],.tup [],.tup [],.tup [],.tup [],.tup [],.tup [],.tup [],dT false] [0,1,4,5,6,7,9,10,31] (by decide +kernel) Z ?_ Z ?_;rotate_left
  ·obtain rfl:=osi ht15;exact⟨_,Gst.only [0,1,4,5,6,7,9,10,31] Z,Z⟩
  iterate 3 refine aB rfl rfl rfl ?_
  refine zw.yes (Want.plain Z) Z (yH (eI .i64) 0 Z Z Z Z) ?_;iterate 2 refine aB rfl rfl rfl ?_
  refine zw.no (Want.bool rfl rfl rfl rfl (by rw[(eF c17)]; rfl)) rfl ?_;refine zw.no (Want.bool rfl rfl rfl rfl (by rw[(eF c17)]; rfl)) rfl ?_;refine zw.no (Want.bool rfl rfl rfl rfl (by rw[(eF c17)]; rfl)) rfl ?_;refine zw.no (Want.bool rfl rfl rfl rfl (by rw[(eF c17)]; rfl)) rfl ?_;refine zw.no (Want.bool rfl rfl rfl rfl (by rw[(eF c17)]; rfl)) rfl ?_;refine zw.no (Want.bool rfl rfl rfl rfl (by rw[(eF c17)]; rfl)) rfl ?_;refine zw.no (Want.bool rfl rfl rfl rfl (by rw[(eF c17)]; rfl)) rfl ?_;refine zw.no (Want.bool rfl rfl rfl rfl (by rw[(eF c17)]; rfl)) rfl ?_;refine zw.no (Want.bool rfl rfl rfl rfl (by rw[(eF c17)]; rfl)) rfl ?_;refine zw.no (Want.bool rfl rfl rfl rfl (by rw[(eF c17)]; rfl)) rfl ?_;refine zw.no (Want.bool rfl rfl rfl rfl (by rw[(eF c17)]; rfl)) rfl ?_;refine zw.no (Want.bool rfl rfl rfl rfl (by rw[(eF c17)]; rfl)) rfl ?_;refine zw.yes (Want.plain Z) Z (zx Z (eF c17) Z) ?_;exact zw.nil
 obtain⟨x18,hx18,ht15⟩:=bS ht15;obtain⟨x19,hx19,ht15⟩:=bS ht15;obtain⟨x20,hx20,ht15⟩:=bS ht15;refine yr zV [dN s4.2.1,dN (w64 (s4.2.1+1)),.val v0,dN (a0.length:Int),dT (decide ((w64 (s4.2.1+1))<(a0.length:Int))),dT (decide ((w64 (s4.2.1+1))<(a0.length:Int))),.fn (.func 190) [] [dP b1,dP b2],.val v0,dN s4.2.1,.val (.pointer (some ⟨blk v0,s4.2.1.toNat*1,none⟩)),dN x18,.val v0,dN s4.2.1,dN (w64 (s4.2.1+1)),.val (.pointer (some ⟨blk v0,(w64 (s4.2.1+1)).toNat*1,none⟩)),dN x19,dN x20,dT (decide (x20≤0)),dT (decide (x20≤0))] [0,1,4,5,6,7,9,10,31] (by decide +kernel) Z ?_ Z ?_;rotate_left
 ·obtain rfl:=osi ht15;exact⟨_,Gst.only [0,1,4,5,6,7,9,10,31] Z,Z⟩
 iterate 3 refine aB rfl rfl rfl ?_
 refine zw.yes (Want.plain Z) Z (yH (eI .i64) 0 Z Z Z Z) ?_;iterate 2 refine aB rfl rfl rfl ?_
 refine zw.yes (Want.bool rfl rfl rfl rfl (by rw[(eT c17)]; rfl)) rfl (OpR.pure rfl) ?_;refine zw.yes (Want.bool rfl rfl rfl rfl (by rw[(eT c17)]; rfl)) rfl (OpR.pure rfl) ?_;refine zw.yes (Want.bool rfl rfl rfl rfl (by rw[(eT c17)]; rfl)) rfl (OpR.pure rfl) ?_;refine zw.yes (Want.bool rfl rfl rfl rfl (by rw[(eT c17)]; rfl)) rfl (zO (eI .i64) 0 hx18 rfl rfl rfl rfl rfl rfl rfl) ?_;refine zw.yes (Want.bool rfl rfl rfl rfl (by rw[(eT c17)]; rfl)) rfl (zH (j:=s4.2.1) (eI .i64) 0 hx18 rfl rfl rfl rfl) ?_;refine zw.yes (Want.bool rfl rfl rfl rfl (by rw[(eT c17)]; rfl)) rfl (OpR.pure rfl) ?_;refine zw.yes (Want.bool rfl rfl rfl rfl (by rw[(eT c17)]; rfl)) rfl (OpR.pure rfl) ?_;refine zw.yes (Want.bool rfl rfl rfl rfl (by rw[(eT c17)]; rfl)) rfl (OpR.pure rfl) ?_;refine zw.yes (Want.bool rfl rfl rfl rfl (by rw[(eT c17)]; rfl)) rfl (zO (eI .i64) 0 hx19 rfl rfl rfl rfl rfl rfl rfl) ?_;refine zw.yes (Want.bool rfl rfl rfl rfl (by rw[(eT c17)]; rfl)) rfl (zH (j:=w64 (s4.2.1+1)) (eI .i64) 0 hx19 rfl rfl rfl rfl) ?_;refine zw.yes (Want.bool rfl rfl rfl rfl (by rw[(eT c17)]; rfl)) rfl (vX [1,2,3,4,5,6] rfl fn190 (tm hx20) rfl rfl rfl (fun _=>rfl)) ?_;refine zw.yes (Want.bool rfl rfl rfl rfl (by rw[(eT c17)]; rfl)) rfl (OpR.pure rfl) ?_;refine zw.yes (Want.plain Z) Z (zt Z (eT c17) Z) ?_;exact zw.nil
noncomputable def xT.l1 (a0:List (List Int)) (s2:Int × Int):Option (Lp (Int × Int) Int):=
 if s2.2<(a0.length:Int) then
 bnd (idx a0 s2.2) fun x11=>
 some (Lp.next (w64 (s2.1+(x11.length:Int)),w64 (s2.2+1)))
else
 some (Lp.done s2.1)
noncomputable def xT (a0:List (List Int)):Option Int:=
 bnd (loop (xT.l1 a0) (0,0):Option Int) fun t1=>
 some t1
theorem merge_count_int_c {a0:List (List Int)} {res:Int} (h0:xT a0=some res):zo X 250 [.sl 1 (List.map sL a0)] [] (fun x=>(dN res)) (fun x=>[]):=by
 unfold xT at h0;refine zb (X:=X) Z Tryz.func250 Z Z Tryz.ntmps250 Z Z ?_;refine aS ?_;refine aA Z Z ?_;refine aN Z ?_;refine aS ?_;refine aA Z Z ?_;refine aN Z ?_;refine T.seq ?_;refine aS ?_;refine aA Z Z ?_;refine z6 (zk (OpR.pure Z) (xn (w9 _ _))) Z ?_;refine aA Z Z ?_;refine aN Z ?_;obtain⟨t1,ht1,h0⟩:=bS h0;refine zA (fun S'=>S'=⟨[(3,(dN t1)),(2,(dN 0))],[],18⟩) (fun _ h=>h) ?_ ?_;rotate_left
 ·rintro _ rfl;show T X _ _ _;refine aS ?_;iterate 2 refine aA rfl rfl ?_
  refine aN Z ?_;refine T.ret ?_;obtain rfl:=osi h0;exact rO [] [2] Z undef (cT Z ResL.nil) Z Z Z Z
 refine T.block ?_;obtain⟨n3,n8⟩:=zy ht1;refine T.loop (fun n S'=>∃ S'',Gst S' S''∧∃ s2:Int × Int,S''=⟨[(8,(dN s2.2)),(7,(dN (a0.length:Int))),(6,.sl 1 (List.map sL a0)),(3,(dN s2.1)),(2,(dN 0))],[],18⟩∧wo (xT.l1 a0) n s2=some t1) n3 ?_ ?_
 ·exact⟨_,Gst.only [2,3,6,7,8] Z,(0,0),Z,n8⟩
 rintro n3 _ ⟨_,g,s2,rfl,i7⟩;refine T.ghost g ?_;obtain⟨m4,q5,rfl,q6,i7⟩:=zz i7;unfold xT.l1 at q6;refine aS ?_;refine aA Z Z ?_;refine aN Z ?_;refine T.seq ?_;rcases z9 q6 with ⟨c10,q6⟩|⟨c10,q6⟩;rotate_left
 ·refine ze Z (eF c10) ?_;refine T.exit ?_;obtain rfl:=osi q6;obtain rfl:_=_:=i7;exact⟨_,Gst.only [2,3] Z,Z⟩
 refine zf Z (eT c10) ?_;refine aK Z ?_;refine T.seq ?_;refine T.block ?_;refine aS ?_;obtain⟨x11,hx11,q6⟩:=bS q6;refine z6 (zp sL hx11 Z Z Z Z Z) Z ?_;iterate 2 refine aA rfl rfl ?_
 refine aN Z ?_;refine T.region ?_;iterate 2 refine aA rfl rfl ?_
 refine z6 (zk (OpR.pure Z) (xn (w9 _ _))) Z ?_;iterate 2 refine aA rfl rfl ?_
 refine aN Z ?_;refine T.region ?_;iterate 2 refine aA rfl rfl ?_
 refine TL.nil ?_;obtain rfl:=osi q6;exact⟨m4,Nat.lt_succ_self _,_,Gst.only [2,3,6,7,8] Z,(w64 (s2.1+(x11.length:Int)),w64 (s2.2+1)),Z,i7⟩
noncomputable def uf (a0:merge_run_int) (a1:List merge_run_int) (a2:List row_Row) (a3:List order_By) (a4:List UInt8):Option (List merge_run_int):=
 bnd (app 32 a1 [a0]) fun x2=>
 some x2
theorem rJ {a0:merge_run_int} {a1:List merge_run_int} {a2:List row_Row} {a3:List order_By} {a4:List UInt8} {b0:Nat} {v1:Value} {b2:Nat} {b3:Nat} {b4:Nat} {b5:Nat} {b6:Nat} {v7:Value} {res:(List merge_run_int)} (h0:uf a0 a1 a2 a3 a4=some res):zo X 304 [dP b0,.ifc 357 (.agg [.sl 1 (List.map (eI .i64) a0.fRest),dN a0.fWhich])] [.var b0 [.val v1,.fn (.func 190) [] [dP b2,dP b3]] 355,.row v1 (List.map zn a1) 2 357,.var b2 [.fn (.func 170) [] [dP b4,dP b5]] 170,.var b3 [.sl 3 (List.map z8 a2)] 163,.var b4 [.sl 2 (List.map zg a3)] 104,.var b5 [dP b6] 28,.var b6 [.val v7] 264,.row v7 (lB a4) 1 5] (fun x=>.tup []) (fun x=>[.var b0 [.val (vn x 0),.fn (.func 190) [] [dP b2,dP b3]] 355,.row (vn x 0) (List.map zn res) 2 357,.var b2 [.fn (.func 170) [] [dP b4,dP b5]] 170,.var b3 [.sl 3 (List.map z8 a2)] 163,.var b4 [.sl 2 (List.map zg a3)] 104,.var b5 [dP b6] 28,.var b6 [.val v7] 264,.row v7 (lB a4) 1 5]):=by
 unfold uf at h0;refine zb (X:=X) Z Tryz.func304 Z Z Tryz.ntmps304 Z Z ?_;obtain⟨x2,hx2,h0⟩:=bS h0;refine yA zV (fun env1=>[dP b0,dP b0,dP b0,dP b0,.val v1,.ifc 357 (.agg [.sl 1 (List.map (eI .i64) a0.fRest),dN a0.fWhich]),.agg [.sl 1 (List.map (eI .i64) a0.fRest),dN a0.fWhich],.sl 2 (List.map zn [a0]),.val (env1 8),dP b0,dP b0,.dead]) (fun D env1=>[(bif D 11 then .var b0 [.val (env1 8),.fn (.func 190) [] [dP b2,dP b3]] 355 else .var b0 [.val v1,.fn (.func 190) [] [dP b2,dP b3]] 355),(bif D 8 then .row (env1 8) (List.map zn x2) 2 357 else .row v1 (List.map zn a1) 2 357),.var b2 [.fn (.func 170) [] [dP b4,dP b5]] 170,.var b3 [.sl 3 (List.map z8 a2)] 163,.var b4 [.sl 2 (List.map zg a3)] 104,.var b5 [dP b6] 28,.var b6 [.val v7] 264,.row v7 (lB a4) 1 5]) [0,0,2,6,14,0,32,96,254,511,1023,2047] [] _ (by decide +kernel) (by decide +kernel) (fun _=>Z) (fun _=>Z) ?_ (fun _=>Z) (fun _=>Z) ?_;rotate_left
 ·intro env1;obtain rfl:=osi h0;exact xg (ks:=[0,1,2,3,4,5,6,7]) (Gst.only [] Z) (.tuple #[(env1 8)]) ResL.nil Z Z Z Z
 iterate 4 refine aC ?_
 refine zi true ?_ (fun _ _ _ _ _ _ _=>Z) ?_
 ·intro D env1 hA;have e8:D 8=false:=hA.no 8 _ rfl rfl;have e11:D 11=false:=hA.no 11 _ rfl rfl;exact zK [(8,false),(11,false)] ⟨e8,e11,trivial⟩ (Want.plain Z) (z7 0 Z Z Z Z) (fun x=>Z) (fun x=>Z)
 refine aC ?_;refine oT (.agg [.sl 1 (List.map (eI .i64) a0.fRest),dN a0.fWhich]) (fun _ _=>OpR.assert Z Z Z) ?_;refine oT (.sl 2 (List.map zn [a0])) (fun _ _=>yN Z Z Z Z Z Z Z) ?_;refine zi true ?_ (fun D hA env1 x j hj hD=>match j,hj,hD with|0,_,_=>Z|1,_,_=>Z|2,_,_=>Z|3,_,_=>Z|4,_,_=>Z|5,_,_=>Z|6,_,_=>Z|7,_,_=>Z|8,hj,_=>absurd Z hj|9,_,_=>Z|10,_,_=>Z|11,_,_=>Z|_+12,_,_=>Z) ?_
 ·intro D env1 hA;have e11:D 11=false:=hA.no 11 _ rfl rfl;exact zK [(11,false),(8,false)] ⟨e11,hA.me,trivial⟩ (Want.plain Z) (zM (m:=[a0]) zn 1 hx2 Z Z Z Z Z Z Z Z Z (fun _=>Z)) (fun x=>Z) (fun x=>Z)
 iterate 2 refine aC ?_
 refine zi true ?_ (fun _ _ _ _ _ _ _=>Z) ?_
 ·intro D env1 hA;have e8:D 8=true:=hA.yes 8 _ rfl rfl;exact zK [(8,true),(11,false)] ⟨e8,hA.me,trivial⟩ (Want.plain Z) (OpR.store 0 Z Z Z Z Z Z Z Z) (fun x=>Z) (fun x=>Z)
 exact trivial
noncomputable def wC (a0:List merge_run_int) (a1:List row_Row) (a2:List order_By) (a3:List UInt8):Option Int:=
 some (a0.length:Int)
theorem vy {a0:List merge_run_int} {a1:List row_Row} {a2:List order_By} {a3:List UInt8} {b0:Nat} {v1:Value} {b2:Nat} {b3:Nat} {b4:Nat} {b5:Nat} {b6:Nat} {v7:Value} {res:Int} (h0:wC a0 a1 a2 a3=some res):zo X 268 [dP b0] [.var b0 [.val v1,.fn (.func 190) [] [dP b2,dP b3]] 355,.row v1 (List.map zn a0) 2 357,.var b2 [.fn (.func 170) [] [dP b4,dP b5]] 170,.var b3 [.sl 3 (List.map z8 a1)] 163,.var b4 [.sl 2 (List.map zg a2)] 104,.var b5 [dP b6] 28,.var b6 [.val v7] 264,.row v7 (lB a3) 1 5] (fun x=>(dN res)) (fun x=>[.var b0 [.val v1,.fn (.func 190) [] [dP b2,dP b3]] 355,.row v1 (List.map zn a0) 2 357,.var b2 [.fn (.func 170) [] [dP b4,dP b5]] 170,.var b3 [.sl 3 (List.map z8 a1)] 163,.var b4 [.sl 2 (List.map zg a2)] 104,.var b5 [dP b6] 28,.var b6 [.val v7] 264,.row v7 (lB a3) 1 5]):=by
 unfold wC at h0;refine zb (X:=X) Z Tryz.func268 Z Z Tryz.ntmps268 Z Z ?_;refine aS ?_;refine aA Z Z ?_;refine aN Z ?_;refine aS ?_;iterate 3 refine aA rfl rfl ?_
 refine z6 (z7 0 Z Z Z Z) Z ?_;refine z6 (yH zn 1 Z Z Z Z) Z ?_;refine aA Z Z ?_;refine aN Z ?_;refine T.ret ?_;obtain rfl:=osi h0;exact rO [0,1,2,3,4,5,6,7] [2] Z undef (cT Z ResL.nil) Z Z Z Z
noncomputable def wn (a0:Int) (a1:Int) (a2:List merge_run_int) (a3:List row_Row) (a4:List order_By) (a5:List UInt8):Option Bool:=
 bnd (idx a2 a0) fun x2=>
 bnd (idx a2 a1) fun x3=>
 bnd (idx x2.fRest 0) fun x5=>
 bnd (idx x3.fRest 0) fun x6=>
 bnd (yX x5 x6 a3 a4 a5) fun x7=>
 if x7=0 then
 some (decide (x2.fWhich<x3.fWhich))
else
 some (decide (x7<0))
theorem ug {a0:Int} {a1:Int} {a2:List merge_run_int} {a3:List row_Row} {a4:List order_By} {a5:List UInt8} {b0:Nat} {v1:Value} {b2:Nat} {b3:Nat} {b4:Nat} {b5:Nat} {b6:Nat} {v7:Value} {res:Bool} (h0:wn a0 a1 a2 a3 a4 a5=some res):zo X 302 [dP b0,dN a0,dN a1] [.var b0 [.val v1,.fn (.func 190) [] [dP b2,dP b3]] 355,.row v1 (List.map zn a2) 2 357,.var b2 [.fn (.func 170) [] [dP b4,dP b5]] 170,.var b3 [.sl 3 (List.map z8 a3)] 163,.var b4 [.sl 2 (List.map zg a4)] 104,.var b5 [dP b6] 28,.var b6 [.val v7] 264,.row v7 (lB a5) 1 5] (fun x=>(dT res)) (fun x=>[.var b0 [.val v1,.fn (.func 190) [] [dP b2,dP b3]] 355,.row v1 (List.map zn a2) 2 357,.var b2 [.fn (.func 170) [] [dP b4,dP b5]] 170,.var b3 [.sl 3 (List.map z8 a3)] 163,.var b4 [.sl 2 (List.map zg a4)] 104,.var b5 [dP b6] 28,.var b6 [.val v7] 264,.row v7 (lB a5) 1 5]):=by
 unfold wn at h0;refine zb (X:=X) Z Tryz.func302 Z Z Tryz.ntmps302 Z Z ?_;refine aS ?_;refine aA Z Z ?_;refine aN Z ?_;refine T.seq ?_;obtain⟨x2,hx2,h0⟩:=bS h0;obtain⟨x3,hx3,h0⟩:=bS h0;refine yA zV (fun env1=>[dP b0,dP b0,dP b0,.val v1,dN a0,.val (.pointer (some ⟨blk v1,a0.toNat*2,none⟩)),.agg [.sl 1 (List.map (eI .i64) x2.fRest),dN x2.fWhich],dP b0,dP b0,dP b0,.val v1,dN a1,.val (.pointer (some ⟨blk v1,a1.toNat*2,none⟩)),.agg [.sl 1 (List.map (eI .i64) x3.fRest),dN x3.fWhich],dP (blk (env1 14)),dP (blk (env1 15)),.dead,.dead]) (fun D env1=>[.var b0 [.val v1,.fn (.func 190) [] [dP b2,dP b3]] 355,.row v1 (List.map zn a2) 2 357,.var b2 [.fn (.func 170) [] [dP b4,dP b5]] 170,.var b3 [.sl 3 (List.map z8 a3)] 163,.var b4 [.sl 2 (List.map zg a4)] 104,.var b5 [dP b6] 28,.var b6 [.val v7] 264,.row v7 (lB a5) 1 5]++(bif D 14 then [(bif D 16 then .var (blk (env1 14)) [.sl 1 (List.map (eI .i64) x2.fRest),dN x2.fWhich] 357 else .var (blk (env1 14)) [.val (.slice none 0 0),dN 0] 357)] else [])++(bif D 15 then [(bif D 17 then .var (blk (env1 15)) [.sl 1 (List.map (eI .i64) x3.fRest),dN x3.fWhich] 357 else .var (blk (env1 15)) [.val (.slice none 0 0),dN 0] 357)] else [])) [0,1,3,7,0,31,63,0,128,384,896,0,3968,8064,0,0,49279,131071] [0,6,7,8] _ (by decide +kernel) (by decide +kernel) (fun _=>Z) (fun _=>Z) ?_ (fun _=>Z) (fun _=>Z) ?_;rotate_left
 ·intro env1;show T X _ _ _;refine T.seq ?_;refine T.seq ?_;obtain⟨x5,hx5,h0⟩:=bS h0;obtain⟨x6,hx6,h0⟩:=bS h0;obtain⟨x7,hx7,h0⟩:=bS h0;refine yr zV [dP b0,dP b0,.val (.pointer (some ⟨b0,1,none⟩)),.fn (.func 190) [] [dP b2,dP b3],dP (blk (env1 14)),.sl 1 (List.map (eI .i64) x2.fRest),.nod [dN x5],dN x5,dP (blk (env1 15)),.sl 1 (List.map (eI .i64) x3.fRest),.nod [dN x6],dN x6,dN x7,dN x7] [6,7,8,9] (by decide +kernel) Z ?_ Z ?_
  ·iterate 3 refine aB rfl rfl rfl ?_
   refine zw.yes (Want.plain Z) Z (z7 0 Z Z Z Z) ?_;refine aB Z Z Z ?_;refine zw.yes (Want.plain Z) Z (z7 8 Z Z Z Z) ?_;refine zw.yes (Want.plain Z) Z (zp (eI .i64) hx5 Z Z Z Z Z) ?_;iterate 2 refine aB rfl rfl rfl ?_
   refine zw.yes (Want.plain Z) Z (z7 9 Z Z Z Z) ?_;refine zw.yes (Want.plain Z) Z (zp (eI .i64) hx6 Z Z Z Z Z) ?_;refine aB Z Z Z ?_;refine zw.yes (Want.plain Z) Z (vX [2,3,4,5,6,7] Z fn190 (tm hx7) Z Z Z (fun _=>Z)) ?_;refine aB Z Z Z ?_;exact zw.nil
  show T X _ _ _;refine aS ?_;iterate 2 refine aA rfl rfl ?_
  refine aN Z ?_;rcases z9 h0 with ⟨c8,h0⟩|⟨c8,h0⟩;rotate_left
  ·refine zf Z (zR (beq_eq_false_iff_ne.2 c8)) ?_;refine aS ?_;iterate 3 refine aA rfl rfl ?_
   refine aN Z ?_;refine T.ret ?_;obtain rfl:=osi h0;exact rP [0,1,2,3,4,5,6,7] [6] [0,1,2,3,4,5,6,7] Z Z Z undef (cT Z ResL.nil) Z Z Z Z
  refine ze Z (zQ (beq_iff_eq.2 c8)) ?_;refine aK Z ?_;refine aS ?_;refine aA Z Z ?_;refine z6 (z7 8 Z Z Z Z) Z ?_;refine aA Z Z ?_;refine z6 (z7 9 Z Z Z Z) Z ?_;iterate 2 refine aA rfl rfl ?_
  refine aN Z ?_;refine T.ret ?_;obtain rfl:=osi h0;exact rP [0,1,2,3,4,5,6,7] [6] [0,1,2,3,4,5,6,7] Z Z Z undef (cT Z ResL.nil) Z Z Z Z
 iterate 3 refine aC ?_
 refine oT (.val v1) (fun _ _=>z7 0 Z Z Z Z) ?_;refine aC ?_;refine oT (.val (.pointer (some ⟨blk v1,a0.toNat*2,none⟩))) (fun _ _=>zO zn 1 hx2 Z Z Z Z Z Z Z) ?_;refine oT (.agg [.sl 1 (List.map (eI .i64) x2.fRest),dN x2.fWhich]) (fun _ _=>zH (j:=a0) zn 1 hx2 Z Z Z Z) ?_;iterate 3 refine aC ?_
 refine oT (.val v1) (fun _ _=>z7 0 Z Z Z Z) ?_;refine aC ?_;refine oT (.val (.pointer (some ⟨blk v1,a1.toNat*2,none⟩))) (fun _ _=>zO zn 1 hx3 Z Z Z Z Z Z Z) ?_;refine oT (.agg [.sl 1 (List.map (eI .i64) x3.fRest),dN x3.fWhich]) (fun _ _=>zH (j:=a1) zn 1 hx3 Z Z Z Z) ?_;refine zi true ?_ (fun D hA env1 x j hj hD=>match j,hj,hD with|0,_,_=>Z|1,_,_=>Z|2,_,_=>Z|3,_,_=>Z|4,_,_=>Z|5,_,_=>Z|6,_,_=>Z|7,_,_=>Z|8,_,_=>Z|9,_,_=>Z|10,_,_=>Z|11,_,_=>Z|12,_,_=>Z|13,_,_=>Z|14,hj,_=>absurd Z hj|15,_,_=>Z|16,_,_=>Z|17,_,_=>Z|_+18,_,_=>Z) ?_
 ·intro D env1 hA;have e16:D 16=false:=hA.no 16 _ rfl rfl;have e17:D 17=false:=hA.no 17 _ rfl rfl;rcases Bool.eq_false_or_eq_true (D 15) with e15|e15;rotate_left
  ·exact zK [(16,false),(17,false),(15,false),(14,false)] ⟨e16,e17,e15,hA.me,trivial⟩ (Want.plain Z) (OpR.alloc Z Z (fun _=>Z)) (fun x=>Z) (fun x=>Z)
  exact zK [(16,false),(17,false),(15,true),(14,false)] ⟨e16,e17,e15,hA.me,trivial⟩ (Want.plain Z) (OpR.pick [0,1,2,3,4,5,6,7,9,8] (OpR.alloc Z Z (fun _=>Z)) (fun _=>Z) Z) (fun x=>Z) (fun x=>Z)
 refine zi true ?_ (fun D hA env1 x j hj hD=>match j,hj,hD with|0,_,_=>Z|1,_,_=>Z|2,_,_=>Z|3,_,_=>Z|4,_,_=>Z|5,_,_=>Z|6,_,_=>Z|7,_,_=>Z|8,_,_=>Z|9,_,_=>Z|10,_,_=>Z|11,_,_=>Z|12,_,_=>Z|13,_,_=>Z|14,_,_=>Z|15,hj,_=>absurd Z hj|16,_,_=>Z|17,_,_=>Z|_+18,_,_=>Z) ?_
 ·intro D env1 hA;have e16:D 16=false:=hA.no 16 _ rfl rfl;have e17:D 17=false:=hA.no 17 _ rfl rfl;rcases Bool.eq_false_or_eq_true (D 14) with e14|e14
  ·exact zK [(16,false),(17,false),(14,true),(15,false)] ⟨e16,e17,e14,hA.me,trivial⟩ (Want.plain Z) (OpR.alloc Z Z (fun _=>Z)) (fun x=>Z) (fun x=>Z)
  exact zK [(16,false),(17,false),(14,false),(15,false)] ⟨e16,e17,e14,hA.me,trivial⟩ (Want.plain Z) (OpR.alloc Z Z (fun _=>Z)) (fun x=>Z) (fun x=>Z)
 refine zi true ?_ (fun _ _ _ _ _ _ _=>Z) ?_
 ·intro D env1 hA;have e14:D 14=true:=hA.yes 14 _ rfl rfl;have e15:D 15=true:=hA.yes 15 _ rfl rfl;have e17:D 17=false:=hA.no 17 _ rfl rfl;exact zK [(14,true),(15,true),(17,false),(16,false)] ⟨e14,e15,e17,hA.me,trivial⟩ (Want.plain Z) (OpR.store 8 Z Z Z Z Z Z Z Z) (fun x=>Z) (fun x=>Z)
 refine zi true ?_ (fun _ _ _ _ _ _ _=>Z) ?_
 ·intro D env1 hA;have e14:D 14=true:=hA.yes 14 _ rfl rfl;have e15:D 15=true:=hA.yes 15 _ rfl rfl;have e16:D 16=true:=hA.yes 16 _ rfl rfl;exact zK [(14,true),(15,true),(16,true),(17,false)] ⟨e14,e15,e16,hA.me,trivial⟩ (Want.plain Z) (OpR.store 9 Z Z Z Z Z Z Z Z) (fun x=>Z) (fun x=>Z)
 exact trivial
noncomputable def wm (a0:Int) (a1:Int) (a2:List merge_run_int) (a3:List row_Row) (a4:List order_By) (a5:List UInt8):Option (List merge_run_int):=
 bnd (idx a2 a1) fun x2=>
 bnd (idx a2 a0) fun x3=>
 bnd (idx (a2.set a0.toNat x2) a1) fun x4=>
 some ((a2.set a0.toNat x2).set a1.toNat x3)
theorem ue {a0:Int} {a1:Int} {a2:List merge_run_int} {a3:List row_Row} {a4:List order_By} {a5:List UInt8} {b0:Nat} {v1:Value} {b2:Nat} {b3:Nat} {b4:Nat} {b5:Nat} {b6:Nat} {v7:Value} {res:(List merge_run_int)} (h0:wm a0 a1 a2 a3 a4 a5=some res):zo X 305 [dP b0,dN a0,dN a1] [.var b0 [.val v1,.fn (.func 190) [] [dP b2,dP b3]] 355,.row v1 (List.map zn a2) 2 357,.var b2 [.fn (.func 170) [] [dP b4,dP b5]] 170,.var b3 [.sl 3 (List.map z8 a3)] 163,.var b4 [.sl 2 (List.map zg a4)] 104,.var b5 [dP b6] 28,.var b6 [.val v7] 264,.row v7 (lB a5) 1 5] (fun x=>.tup []) (fun x=>[.var b0 [.val v1,.fn (.func 190) [] [dP b2,dP b3]] 355,.row v1 (List.map zn res) 2 357,.var b2 [.fn (.func 170) [] [dP b4,dP b5]] 170,.var b3 [.sl 3 (List.map z8 a3)] 163,.var b4 [.sl 2 (List.map zg a4)] 104,.var b5 [dP b6] 28,.var b6 [.val v7] 264,.row v7 (lB a5) 1 5]):=by
 unfold wm at h0;refine zb (X:=X) Z Tryz.func305 Z Z Tryz.ntmps305 Z Z ?_;obtain⟨x2,hx2,h0⟩:=bS h0;obtain⟨x3,hx3,h0⟩:=bS h0;obtain⟨x4,hx4,h0⟩:=bS h0;refine yA zV (fun env1=>[dP b0,dP b0,dP b0,.val v1,dN a0,dP b0,dP b0,dP b0,.val v1,dN a1,dP b0,dP b0,dP b0,.val v1,dN a1,.val (.pointer (some ⟨blk v1,a1.toNat*2,none⟩)),.agg [.sl 1 (List.map (eI .i64) x2.fRest),dN x2.fWhich],dP b0,dP b0,dP b0,.val v1,dN a0,.val (.pointer (some ⟨blk v1,a0.toNat*2,none⟩)),.agg [.sl 1 (List.map (eI .i64) x3.fRest),dN x3.fWhich],.val (.pointer (some ⟨blk v1,a0.toNat*2,none⟩)),.dead,.val (.pointer (some ⟨blk v1,a1.toNat*2,none⟩)),.dead]) (fun D env1=>[.var b0 [.val v1,.fn (.func 190) [] [dP b2,dP b3]] 355,(bif D 27 then .row v1 (List.map zn ((a2.set a0.toNat x2).set a1.toNat x3)) 2 357 else bif D 25 then .row v1 (List.map zn (a2.set a0.toNat x2)) 2 357 else .row v1 (List.map zn a2) 2 357),.var b2 [.fn (.func 170) [] [dP b4,dP b5]] 170,.var b3 [.sl 3 (List.map z8 a3)] 163,.var b4 [.sl 2 (List.map zg a4)] 104,.var b5 [dP b6] 28,.var b6 [.val v7] 264,.row v7 (lB a5) 1 5]) [0,1,3,7,0,0,32,96,224,0,0,1024,3072,7168,0,31744,64512,0,131072,393216,917504,0,4063232,8257536,16776703,33553919,67108863,134217727] [] _ (by decide +kernel) (by decide +kernel) (fun _=>Z) (fun _=>Z) ?_ (fun _=>Z) (fun _=>Z) ?_;rotate_left
 ·intro env1;obtain rfl:=osi h0;exact xg (ks:=[0,1,2,3,4,5,6,7]) (Gst.only [] Z) undef ResL.nil Z Z Z Z
 iterate 3 refine aC ?_
 refine oT (.val v1) (fun _ _=>z7 0 Z Z Z Z) ?_;iterate 4 refine aC ?_
 refine oT (.val v1) (fun _ _=>z7 0 Z Z Z Z) ?_;iterate 4 refine aC ?_
 refine oT (.val v1) (fun _ _=>z7 0 Z Z Z Z) ?_;refine aC ?_;refine zi true ?_ (fun _ _ _ _ _ _ _=>Z) ?_
 ·intro D env1 hA;have e25:D 25=false:=hA.no 25 _ rfl rfl;have e27:D 27=false:=hA.no 27 _ rfl rfl;exact zK [(25,false),(27,false)] ⟨e25,e27,trivial⟩ (Want.plain Z) (zO zn 1 hx2 Z Z Z Z Z Z Z) (fun x=>Z) (fun x=>Z)
 refine zi true ?_ (fun _ _ _ _ _ _ _=>Z) ?_
 ·intro D env1 hA;have e25:D 25=false:=hA.no 25 _ rfl rfl;have e27:D 27=false:=hA.no 27 _ rfl rfl;exact zK [(25,false),(27,false)] ⟨e25,e27,trivial⟩ (Want.plain Z) (zH (j:=a1) zn 1 hx2 Z Z Z Z) (fun x=>Z) (fun x=>Z)
 iterate 3 refine aC ?_
 refine oT (.val v1) (fun _ _=>z7 0 Z Z Z Z) ?_;refine aC ?_;refine zi true ?_ (fun _ _ _ _ _ _ _=>Z) ?_
 ·intro D env1 hA;have e25:D 25=false:=hA.no 25 _ rfl rfl;have e27:D 27=false:=hA.no 27 _ rfl rfl;exact zK [(25,false),(27,false)] ⟨e25,e27,trivial⟩ (Want.plain Z) (zO zn 1 hx3 Z Z Z Z Z Z Z) (fun x=>Z) (fun x=>Z)
 refine zi true ?_ (fun _ _ _ _ _ _ _=>Z) ?_
 ·intro D env1 hA;have e25:D 25=false:=hA.no 25 _ rfl rfl;have e27:D 27=false:=hA.no 27 _ rfl rfl;exact zK [(25,false),(27,false)] ⟨e25,e27,trivial⟩ (Want.plain Z) (zH (j:=a0) zn 1 hx3 Z Z Z Z) (fun x=>Z) (fun x=>Z)
 refine zi true ?_ (fun _ _ _ _ _ _ _=>Z) ?_
 ·intro D env1 hA;have e25:D 25=false:=hA.no 25 _ rfl rfl;have e27:D 27=false:=hA.no 27 _ rfl rfl;exact zK [(25,false),(27,false)] ⟨e25,e27,trivial⟩ (Want.plain Z) (zO zn 1 hx3 Z Z Z Z Z Z Z) (fun x=>Z) (fun x=>Z)
 refine zi true ?_ (fun _ _ _ _ _ _ _=>Z) ?_
 ·intro D env1 hA;have e27:D 27=false:=hA.no 27 _ rfl rfl;exact zK [(27,false),(25,false)] ⟨e27,hA.me,trivial⟩ (Want.plain Z) (yD (j:=a0) zn x2 1 hx3 Z Z Z Z Z Z Z Z Z) (fun x=>Z) (fun x=>Z)
 refine zi true ?_ (fun _ _ _ _ _ _ _=>Z) ?_
 ·intro D env1 hA;have e25:D 25=true:=hA.yes 25 _ rfl rfl;have e27:D 27=false:=hA.no 27 _ rfl rfl;exact zK [(25,true),(27,false)] ⟨e25,e27,trivial⟩ (Want.plain Z) (zO zn 1 hx4 Z Z Z Z Z Z Z) (fun x=>Z) (fun x=>Z)
 refine zi true ?_ (fun _ _ _ _ _ _ _=>Z) ?_
 ·intro D env1 hA;have e25:D 25=true:=hA.yes 25 _ rfl rfl;exact zK [(25,true),(27,false)] ⟨e25,hA.me,trivial⟩ (Want.plain Z) (yD (j:=a1) zn x3 1 hx4 Z Z Z Z Z Z Z Z Z) (fun x=>Z) (fun x=>Z)
 exact trivial
noncomputable def xN.l1 (a2:List row_Row) (a3:List order_By) (a4:List UInt8) (s2:Int × (List merge_run_int)):Option (Lp (Int × (List merge_run_int)) (List merge_run_int)):=
 bnd (if (w64 (quo (w64 (s2.1-1)) 1))=s2.1 then
 some true
else
 bnd (wn s2.1 (w64 (quo (w64 (s2.1-1)) 1)) s2.2 a2 a3 a4) fun x12=>
 some (!x12):Option Bool) fun t10=>
 if t10=true then
 some (Lp.done s2.2)
else
 bnd (wm (w64 (quo (w64 (s2.1-1)) 1)) s2.1 s2.2 a2 a3 a4) fun x14=>
 some (Lp.next (w64 (quo (w64 (s2.1-1)) 1),x14))
noncomputable def xN (a0:Int) (a1:List merge_run_int) (a2:List row_Row) (a3:List order_By) (a4:List UInt8):Option (List merge_run_int):=
 bnd (loop (xN.l1 a2 a3 a4) (a0,a1):Option (List merge_run_int)) fun t1=>
 some t1
theorem sG {a0:Int} {a1:List merge_run_int} {a2:List row_Row} {a3:List order_By} {a4:List UInt8} {b0:Nat} {v1:Value} {b2:Nat} {b3:Nat} {b4:Nat} {b5:Nat} {b6:Nat} {v7:Value} {res:(List merge_run_int)} (h0:xN a0 a1 a2 a3 a4=some res):zo X 264 [.ifc 352 (dP b0),dN a0] [.var b0 [.val v1,.fn (.func 190) [] [dP b2,dP b3]] 355,.row v1 (List.map zn a1) 2 357,.var b2 [.fn (.func 170) [] [dP b4,dP b5]] 170,.var b3 [.sl 3 (List.map z8 a2)] 163,.var b4 [.sl 2 (List.map zg a3)] 104,.var b5 [dP b6] 28,.var b6 [.val v7] 264,.row v7 (lB a4) 1 5] (fun x=>.tup []) (fun x=>[.var b0 [.val v1,.fn (.func 190) [] [dP b2,dP b3]] 355,.row v1 (List.map zn res) 2 357,.var b2 [.fn (.func 170) [] [dP b4,dP b5]] 170,.var b3 [.sl 3 (List.map z8 a2)] 163,.var b4 [.sl 2 (List.map zg a3)] 104,.var b5 [dP b6] 28,.var b6 [.val v7] 264,.row v7 (lB a4) 1 5]):=by
 unfold xN at h0;refine zb (X:=X) Z Tryz.func264 Z Z Tryz.ntmps264 Z Z ?_;obtain⟨t1,ht1,h0⟩:=bS h0;refine T.cutN (fun S'=>S'=⟨[],[.var b0 [.val v1,.fn (.func 190) [] [dP b2,dP b3]] 355,.row v1 (List.map zn t1) 2 357,.var b2 [.fn (.func 170) [] [dP b4,dP b5]] 170,.var b3 [.sl 3 (List.map z8 a2)] 163,.var b4 [.sl 2 (List.map zg a3)] 104,.var b5 [dP b6] 28,.var b6 [.val v7] 264,.row v7 (lB a4) 1 5],23⟩) (fun _ _ g ⟨h,S',ds,g',r⟩=>⟨h,S',ds,Gst.trans g g',r⟩) ?_ ?_;rotate_left
 ·rintro _ rfl;obtain rfl:=osi h0;exact xg (ks:=[0,1,2,3,4,5,6,7]) (Gst.only [] Z) undef ResL.nil Z Z Z Z
 refine T.block ?_;obtain⟨n3,n8⟩:=zy ht1;refine T.loop (fun n S'=>∃ S'',Gst S' S''∧∃ s2:Int × (List merge_run_int),S''=⟨[(1,(dN s2.1)),(0,.ifc 352 (dP b0))],[.var b0 [.val v1,.fn (.func 190) [] [dP b2,dP b3]] 355,.row v1 (List.map zn s2.2) 2 357,.var b2 [.fn (.func 170) [] [dP b4,dP b5]] 170,.var b3 [.sl 3 (List.map z8 a2)] 163,.var b4 [.sl 2 (List.map zg a3)] 104,.var b5 [dP b6] 28,.var b6 [.val v7] 264,.row v7 (lB a4) 1 5],23⟩∧wo (xN.l1 a2 a3 a4) n s2=some t1) n3 ?_ ?_
 ·exact⟨_,Gst.only [0,1] Z,(a0,a1),Z,n8⟩
 rintro n3 _ ⟨_,g,s2,rfl,i7⟩;refine T.ghost g ?_;obtain⟨m4,q5,rfl,q6,i7⟩:=zz i7;unfold xN.l1 at q6;refine T.block ?_;refine aS ?_;iterate 4 refine aA rfl rfl ?_
 refine aN Z ?_;refine T.seq ?_;refine T.seq ?_;obtain⟨t10,ht10,q6⟩:=bS q6;refine zA (fun S'=>S'=⟨[(17,(dT t10)),(4,(dN (w64 (quo (w64 (s2.1-1)) 1)))),(1,(dN s2.1)),(0,.ifc 352 (dP b0))],[.var b0 [.val v1,.fn (.func 190) [] [dP b2,dP b3]] 355,.row v1 (List.map zn s2.2) 2 357,.var b2 [.fn (.func 170) [] [dP b4,dP b5]] 170,.var b3 [.sl 3 (List.map z8 a2)] 163,.var b4 [.sl 2 (List.map zg a3)] 104,.var b5 [dP b6] 28,.var b6 [.val v7] 264,.row v7 (lB a4) 1 5],23⟩) (fun _ h=>h) ?_ ?_;rotate_left
 ·rintro _ rfl;show T X _ _ _;rcases z9 q6 with ⟨c13,q6⟩|⟨c13,q6⟩
  ·refine zf Z (c13) ?_;refine T.exit ?_;obtain rfl:=osi q6;obtain rfl:_=_:=i7;exact⟨_,Gst.only [] Z,Z⟩
  refine ze Z (eN c13) ?_;refine aK Z ?_;refine aS ?_;iterate 3 refine aA rfl rfl ?_
  obtain⟨x14,hx14,q6⟩:=bS q6;refine z6 (xC [0,1,2,3,4,5,6,7] Z mt352_Swap fn305 (ue hx14) Z Z Z (fun _=>Z)) Z ?_;refine aN Z ?_;refine T.region ?_;iterate 2 refine aA rfl rfl ?_
  refine TL.nil ?_;obtain rfl:=osi q6;exact⟨m4,Nat.lt_succ_self _,_,Gst.only [0,1] Z,(w64 (quo (w64 (s2.1-1)) 1),x14),Z,i7⟩
 refine T.region ?_;iterate 4 refine aA rfl rfl ?_
 rcases z9 ht10 with ⟨c11,ht10⟩|⟨c11,ht10⟩
 ·refine TL.off Z Z Z Z (beq_iff_eq.2 c11) Z Z ?_;refine TL.off Z Z Z Z (beq_iff_eq.2 c11) Z Z ?_;refine TL.off Z Z Z Z (beq_iff_eq.2 c11) Z Z ?_;refine TL.off Z Z Z Z (beq_iff_eq.2 c11) Z Z ?_;refine TL.off Z Z Z Z (beq_iff_eq.2 c11) Z Z ?_;refine z6 (zt Z (beq_iff_eq.2 c11) Z) Z ?_;refine TL.nil ?_;obtain rfl:=osi ht10;exact⟨_,Gst.only [0,1,4,17] Z,Z⟩
 refine TL.on Z Z Z Z (beq_eq_false_iff_ne.2 c11) ?_;refine aA Z Z ?_;refine TL.on Z Z Z Z (beq_eq_false_iff_ne.2 c11) ?_;refine aA Z Z ?_;refine TL.on Z Z Z Z (beq_eq_false_iff_ne.2 c11) ?_;refine aA Z Z ?_;refine TL.on Z Z Z Z (beq_eq_false_iff_ne.2 c11) ?_;obtain⟨x12,hx12,ht10⟩:=bS ht10;refine z6 (xC [0,1,2,3,4,5,6,7] Z mt352_Less fn302 (ug hx12) Z Z Z (fun _=>Z)) Z ?_;refine TL.on Z Z Z Z (beq_eq_false_iff_ne.2 c11) ?_;refine aA Z Z ?_;refine z6 (zx Z (beq_eq_false_iff_ne.2 c11) Z) Z ?_;refine TL.nil ?_;obtain rfl:=osi ht10;exact⟨_,Gst.only [0,1,4,17] Z,Z⟩
noncomputable def vo (a0:merge_run_int) (a1:List merge_run_int) (a2:List row_Row) (a3:List order_By) (a4:List UInt8):Option (List merge_run_int):=
 bnd (uf a0 a1 a2 a3 a4) fun x1=>
 bnd (wC x1 a2 a3 a4) fun x3=>
 bnd (xN (w64 (x3-1)) x1 a2 a3 a4) fun x4=>
 some x4
theorem rL {a0:merge_run_int} {a1:List merge_run_int} {a2:List row_Row} {a3:List order_By} {a4:List UInt8} {b0:Nat} {v1:Value} {b2:Nat} {b3:Nat} {b4:Nat} {b5:Nat} {b6:Nat} {v7:Value} {res:(List merge_run_int)} (h0:vo a0 a1 a2 a3 a4=some res):zo X 241 [.ifc 352 (dP b0),.ifc 357 (.agg [.sl 1 (List.map (eI .i64) a0.fRest),dN a0.fWhich])] [.var b0 [.val v1,.fn (.func 190) [] [dP b2,dP b3]] 355,.row v1 (List.map zn a1) 2 357,.var b2 [.fn (.func 170) [] [dP b4,dP b5]] 170,.var b3 [.sl 3 (List.map z8 a2)] 163,.var b4 [.sl 2 (List.map zg a3)] 104,.var b5 [dP b6] 28,.var b6 [.val v7] 264,.row v7 (lB a4) 1 5] (fun x=>.tup []) (fun x=>[.var b0 [.val (vn x 0),.fn (.func 190) [] [dP b2,dP b3]] 355,.row (vn x 0) (List.map zn res) 2 357,.var b2 [.fn (.func 170) [] [dP b4,dP b5]] 170,.var b3 [.sl 3 (List.map z8 a2)] 163,.var b4 [.sl 2 (List.map zg a3)] 104,.var b5 [dP b6] 28,.var b6 [.val v7] 264,.row v7 (lB a4) 1 5]):=by
 unfold vo at h0;refine zb (X:=X) Z Tryz.func241 Z Z Tryz.ntmps241 Z Z ?_;refine aS ?_;iterate 2 refine aA rfl rfl ?_
 obtain⟨x1,hx1,h0⟩:=bS h0;refine TL.op (xC [0,1,2,3,4,5,6,7] Z mt352_Push fn304 (rJ hx1) Z Z Z (fun _=>Z)) Z (fun w2=>?_);refine aN Z ?_;refine T.region ?_;iterate 2 refine aA rfl rfl ?_
 obtain⟨x3,hx3,h0⟩:=bS h0;refine z6 (xC [0,1,2,3,4,5,6,7] Z mt352_Len fn268 (vy hx3) Z Z Z (fun _=>Z)) Z ?_;refine aA Z Z ?_;obtain⟨x4,hx4,h0⟩:=bS h0;refine z6 (OpR.call [0,1,2,3,4,5,6,7] fn264 (sG hx4) Z Z Z (fun _=>Z)) Z ?_;refine TL.nil ?_;obtain rfl:=osi h0;exact xg (ks:=[0,1,2,3,4,5,6,7]) (Gst.only [] Z) (.tuple #[(vn w2 0)]) ResL.nil Z Z Z Z
noncomputable def xr.l1 (a1:Int) (a3:List row_Row) (a4:List order_By) (a5:List UInt8) (s2:Int × (List merge_run_int)):Option (Lp (Int × (List merge_run_int)) (Int × (List merge_run_int))):=
 bnd (if (w64 ((w64 (2*s2.1))+1))≥a1 then
 some true
else
 some (decide ((w64 ((w64 (2*s2.1))+1))<0)):Option Bool) fun t10=>
 if t10=true then
 some (Lp.done (s2.1,s2.2))
else
 bnd (if (w64 ((w64 ((w64 (2*s2.1))+1))+1))<a1 then
 bnd (wn (w64 ((w64 ((w64 (2*s2.1))+1))+1)) (w64 ((w64 (2*s2.1))+1)) s2.2 a3 a4 a5) fun x15=>
 some x15
else
 some false:Option Bool) fun t13=>
 bnd (if t13=true then
 some (w64 ((w64 ((w64 (2*s2.1))+1))+1))
else
 some (w64 ((w64 (2*s2.1))+1)):Option Int) fun t16=>
 bnd (wn t16 s2.1 s2.2 a3 a4 a5) fun x18=>
 if x18=true then
 bnd (wm s2.1 t16 s2.2 a3 a4 a5) fun x20=>
 some (Lp.next (t16,x20))
else
 some (Lp.done (s2.1,s2.2))
noncomputable def xr (a0:Int) (a1:Int) (a2:List merge_run_int) (a3:List row_Row) (a4:List order_By) (a5:List UInt8):Option (Bool × (List merge_run_int)):=
 bnd (loop (xr.l1 a1 a3 a4 a5) (a0,a2):Option (Int × (List merge_run_int))) fun t1=>
 some (decide (t1.1>a0),t1.2)
theorem tK {a0:Int} {a1:Int} {a2:List merge_run_int} {a3:List row_Row} {a4:List order_By} {a5:List UInt8} {b0:Nat} {v1:Value} {b2:Nat} {b3:Nat} {b4:Nat} {b5:Nat} {b6:Nat} {v7:Value} {res:Bool × (List merge_run_int)} (h0:xr a0 a1 a2 a3 a4 a5=some res):zo X 265 [.ifc 352 (dP b0),dN a0,dN a1] [.var b0 [.val v1,.fn (.func 190) [] [dP b2,dP b3]] 355,.row v1 (List.map zn a2) 2 357,.var b2 [.fn (.func 170) [] [dP b4,dP b5]] 170,.var b3 [.sl 3 (List.map z8 a3)] 163,.var b4 [.sl 2 (List.map zg a4)] 104,.var b5 [dP b6] 28,.var b6 [.val v7] 264,.row v7 (lB a5) 1 5] (fun x=>(dT res.1)) (fun x=>[.var b0 [.val v1,.fn (.func 190) [] [dP b2,dP b3]] 355,.row v1 (List.map zn res.2) 2 357,.var b2 [.fn (.func 170) [] [dP b4,dP b5]] 170,.var b3 [.sl 3 (List.map z8 a3)] 163,.var b4 [.sl 2 (List.map zg a4)] 104,.var b5 [dP b6] 28,.var b6 [.val v7] 264,.row v7 (lB a5) 1 5]):=by
 unfold xr at h0;refine zb (X:=X) Z Tryz.func265 Z Z Tryz.ntmps265 Z Z ?_;refine aS ?_;refine aA Z Z ?_;refine aN Z ?_;refine aS ?_;iterate 2 refine aA rfl rfl ?_
 refine aN Z ?_;refine T.seq ?_;obtain⟨t1,ht1,h0⟩:=bS h0;refine zA (fun S'=>S'=⟨[(7,(dN t1.1)),(6,(dT false)),(1,(dN a0))],[.var b0 [.val v1,.fn (.func 190) [] [dP b2,dP b3]] 355,.row v1 (List.map zn t1.2) 2 357,.var b2 [.fn (.func 170) [] [dP b4,dP b5]] 170,.var b3 [.sl 3 (List.map z8 a3)] 163,.var b4 [.sl 2 (List.map zg a4)] 104,.var b5 [dP b6] 28,.var b6 [.val v7] 264,.row v7 (lB a5) 1 5],48⟩) (fun _ h=>h) ?_ ?_;rotate_left
 ·rintro _ rfl;show T X _ _ _;refine aS ?_;iterate 4 refine aA rfl rfl ?_
  refine aN Z ?_;refine T.ret ?_;obtain rfl:=osi h0;exact rO [0,1,2,3,4,5,6,7] [6] Z undef (cT Z ResL.nil) Z Z Z Z
 refine T.block ?_;obtain⟨n3,n8⟩:=zy ht1;refine T.loop (fun n S'=>∃ S'',Gst S' S''∧∃ s2:Int × (List merge_run_int),S''=⟨[(7,(dN s2.1)),(6,(dT false)),(2,(dN a1)),(1,(dN a0)),(0,.ifc 352 (dP b0))],[.var b0 [.val v1,.fn (.func 190) [] [dP b2,dP b3]] 355,.row v1 (List.map zn s2.2) 2 357,.var b2 [.fn (.func 170) [] [dP b4,dP b5]] 170,.var b3 [.sl 3 (List.map z8 a3)] 163,.var b4 [.sl 2 (List.map zg a4)] 104,.var b5 [dP b6] 28,.var b6 [.val v7] 264,.row v7 (lB a5) 1 5],48⟩∧wo (xr.l1 a1 a3 a4 a5) n s2=some t1) n3 ?_ ?_
 ·exact⟨_,Gst.only [0,1,2,6,7] Z,(a0,a2),Z,n8⟩
 rintro n3 _ ⟨_,g,s2,rfl,i7⟩;refine T.ghost g ?_;obtain⟨m4,q5,rfl,q6,i7⟩:=zz i7;unfold xr.l1 at q6;refine T.block ?_;refine aS ?_;iterate 4 refine aA rfl rfl ?_
 refine aN Z ?_;refine T.seq ?_;refine T.seq ?_;obtain⟨t10,ht10,q6⟩:=bS q6;refine zA (fun S'=>S'=⟨[(21,(dT t10)),(8,(dN (w64 ((w64 (2*s2.1))+1)))),(7,(dN s2.1)),(6,(dT false)),(2,(dN a1)),(1,(dN a0)),(0,.ifc 352 (dP b0))],[.var b0 [.val v1,.fn (.func 190) [] [dP b2,dP b3]] 355,.row v1 (List.map zn s2.2) 2 357,.var b2 [.fn (.func 170) [] [dP b4,dP b5]] 170,.var b3 [.sl 3 (List.map z8 a3)] 163,.var b4 [.sl 2 (List.map zg a4)] 104,.var b5 [dP b6] 28,.var b6 [.val v7] 264,.row v7 (lB a5) 1 5],48⟩) (fun _ h=>h) ?_ ?_
 ·refine T.region ?_;iterate 4 refine aA rfl rfl ?_
  rcases z9 ht10 with ⟨c11,ht10⟩|⟨c11,ht10⟩
  ·refine TL.off Z Z Z Z (eT c11) Z Z ?_;refine TL.off Z Z Z Z (eT c11) Z Z ?_;refine z6 (zt Z (eT c11) Z) Z ?_;refine TL.nil ?_;obtain rfl:=osi ht10;exact⟨_,Gst.only [0,1,2,6,7,8,21] Z,Z⟩
  refine TL.on Z Z Z Z (eF c11) ?_;refine aA Z Z ?_;refine TL.on Z Z Z Z (eF c11) ?_;refine aA Z Z ?_;refine z6 (zx Z (eF c11) Z) Z ?_;refine TL.nil ?_;obtain rfl:=osi ht10;exact⟨_,Gst.only [0,1,2,6,7,8,21] Z,Z⟩
 rintro _ rfl;show T X _ _ _;rcases z9 q6 with ⟨c12,q6⟩|⟨c12,q6⟩
 ·refine zf Z (c12) ?_;refine T.exit ?_;obtain rfl:=osi q6;obtain rfl:_=_:=i7;exact⟨_,Gst.only [1,6,7] Z,Z⟩
 refine ze Z (eN c12) ?_;refine aK Z ?_;refine aS ?_;iterate 2 refine aA rfl rfl ?_
 refine aN Z ?_;refine T.seq ?_;refine aS ?_;iterate 3 refine aA rfl rfl ?_
 refine aN Z ?_;refine T.seq ?_;obtain⟨t13,ht13,q6⟩:=bS q6;refine zA (fun S'=>S'=⟨[(33,(dT t13)),(10,(dN (w64 ((w64 ((w64 (2*s2.1))+1))+1)))),(9,(dN (w64 ((w64 (2*s2.1))+1)))),(7,(dN s2.1)),(6,(dT false)),(2,(dN a1)),(1,(dN a0)),(0,.ifc 352 (dP b0))],[.var b0 [.val v1,.fn (.func 190) [] [dP b2,dP b3]] 355,.row v1 (List.map zn s2.2) 2 357,.var b2 [.fn (.func 170) [] [dP b4,dP b5]] 170,.var b3 [.sl 3 (List.map z8 a3)] 163,.var b4 [.sl 2 (List.map zg a4)] 104,.var b5 [dP b6] 28,.var b6 [.val v7] 264,.row v7 (lB a5) 1 5],48⟩) (fun _ h=>h) ?_ ?_
 ·refine T.region ?_;iterate 4 refine aA rfl rfl ?_
  rcases z9 ht13 with ⟨c14,ht13⟩|⟨c14,ht13⟩;rotate_left
  ·refine TL.off Z Z Z Z (eF c14) Z Z ?_;refine TL.off Z Z Z Z (eF c14) Z Z ?_;refine TL.off Z Z Z Z (eF c14) Z Z ?_;refine TL.off Z Z Z Z (eF c14) Z Z ?_;refine z6 (zx Z (eF c14) Z) Z ?_;refine TL.nil ?_;obtain rfl:=osi ht13;exact⟨_,Gst.only [0,1,2,6,7,9,10,33] Z,Z⟩
  refine TL.on Z Z Z Z (eT c14) ?_;refine aA Z Z ?_;refine TL.on Z Z Z Z (eT c14) ?_;refine aA Z Z ?_;refine TL.on Z Z Z Z (eT c14) ?_;refine aA Z Z ?_;refine TL.on Z Z Z Z (eT c14) ?_;obtain⟨x15,hx15,ht13⟩:=bS ht13;refine z6 (xC [0,1,2,3,4,5,6,7] Z mt352_Less fn302 (ug hx15) Z Z Z (fun _=>Z)) Z ?_;refine z6 (zt Z (eT c14) Z) Z ?_;refine TL.nil ?_;obtain rfl:=osi ht13;exact⟨_,Gst.only [0,1,2,6,7,9,10,33] Z,Z⟩
 rintro _ rfl;show T X _ _ _;obtain⟨t16,ht16,q6⟩:=bS q6;refine zA (fun S'=>S'=⟨[(9,(dN t16)),(7,(dN s2.1)),(6,(dT false)),(2,(dN a1)),(1,(dN a0)),(0,.ifc 352 (dP b0))],[.var b0 [.val v1,.fn (.func 190) [] [dP b2,dP b3]] 355,.row v1 (List.map zn s2.2) 2 357,.var b2 [.fn (.func 170) [] [dP b4,dP b5]] 170,.var b3 [.sl 3 (List.map z8 a3)] 163,.var b4 [.sl 2 (List.map zg a4)] 104,.var b5 [dP b6] 28,.var b6 [.val v7] 264,.row v7 (lB a5) 1 5],48⟩) (fun _ h=>h) ?_ ?_
 ·rcases z9 ht16 with ⟨c17,ht16⟩|⟨c17,ht16⟩;rotate_left
  ·refine ze Z (eN c17) ?_;refine T.skip ?_;obtain rfl:=osi ht16;exact⟨_,Gst.only [0,1,2,6,7,9] Z,Z⟩
  refine zf Z (c17) ?_;refine T.region ?_;iterate 2 refine aA rfl rfl ?_
  refine TL.nil ?_;obtain rfl:=osi ht16;exact⟨_,Gst.only [0,1,2,6,7,9] Z,Z⟩
 rintro _ rfl;show T X _ _ _;refine T.seq ?_;refine aS ?_;iterate 3 refine aA rfl rfl ?_
 obtain⟨x18,hx18,q6⟩:=bS q6;refine z6 (xC [0,1,2,3,4,5,6,7] Z mt352_Less fn302 (ug hx18) Z Z Z (fun _=>Z)) Z ?_;refine aA Z Z ?_;refine aN Z ?_;rcases z9 q6 with ⟨c19,q6⟩|⟨c19,q6⟩;rotate_left
 ·refine zf Z (zR (eN c19)) ?_;refine T.exit ?_;obtain rfl:=osi q6;obtain rfl:_=_:=i7;exact⟨_,Gst.only [1,6,7] Z,Z⟩
 refine ze Z (zQ (c19)) ?_;refine aK Z ?_;refine aS ?_;iterate 3 refine aA rfl rfl ?_
 obtain⟨x20,hx20,q6⟩:=bS q6;refine z6 (xC [0,1,2,3,4,5,6,7] Z mt352_Swap fn305 (ue hx20) Z Z Z (fun _=>Z)) Z ?_;refine aN Z ?_;refine T.region ?_;iterate 2 refine aA rfl rfl ?_
 refine TL.nil ?_;obtain rfl:=osi q6;exact⟨m4,Nat.lt_succ_self _,_,Gst.only [0,1,2,6,7] Z,(t16,x20),Z,i7⟩
noncomputable def tb (a0:List merge_run_int) (a1:List row_Row) (a2:List order_By) (a3:List UInt8):Option (merge_run_int × (List merge_run_int)):=
 bnd (idx a0 (w64 ((a0.length:Int)-1))) fun x1=>
 bnd (cut a0 0 (w64 ((a0.length:Int)-1))) fun x3=>
 some (x1,x3)
theorem qR {a0:List merge_run_int} {a1:List row_Row} {a2:List order_By} {a3:List UInt8} {b0:Nat} {v1:Value} {b2:Nat} {b3:Nat} {b4:Nat} {b5:Nat} {b6:Nat} {v7:Value} {res:merge_run_int × (List merge_run_int)} (h0:tb a0 a1 a2 a3=some res):zo X 303 [dP b0] [.var b0 [.val v1,.fn (.func 190) [] [dP b2,dP b3]] 355,.row v1 (List.map zn a0) 2 357,.var b2 [.fn (.func 170) [] [dP b4,dP b5]] 170,.var b3 [.sl 3 (List.map z8 a1)] 163,.var b4 [.sl 2 (List.map zg a2)] 104,.var b5 [dP b6] 28,.var b6 [.val v7] 264,.row v7 (lB a3) 1 5] (fun x=>.ifc 357 (.agg [.sl 1 (List.map (eI .i64) res.1.fRest),dN res.1.fWhich])) (fun x=>[.var b0 [.val (vn x 0),.fn (.func 190) [] [dP b2,dP b3]] 355,.row (vn x 0) (List.map zn res.2) 2 357,.var b2 [.fn (.func 170) [] [dP b4,dP b5]] 170,.var b3 [.sl 3 (List.map z8 a1)] 163,.var b4 [.sl 2 (List.map zg a2)] 104,.var b5 [dP b6] 28,.var b6 [.val v7] 264,.row v7 (lB a3) 1 5]):=by
 unfold tb at h0;refine zb (X:=X) Z Tryz.func303 Z Z Tryz.ntmps303 Z Z ?_;refine aS ?_;refine aA Z Z ?_;refine aN Z ?_;refine aS ?_;iterate 3 refine aA rfl rfl ?_
 refine z6 (z7 0 Z Z Z Z) Z ?_;refine z6 (yH zn 1 Z Z Z Z) Z ?_;iterate 2 refine aA rfl rfl ?_
 refine aN Z ?_;refine aS ?_;iterate 3 refine aA rfl rfl ?_
 refine z6 (z7 0 Z Z Z Z) Z ?_;refine aA Z Z ?_;obtain⟨x1,hx1,h0⟩:=bS h0;refine z6 (zO zn 1 hx1 Z Z Z Z Z Z Z) Z ?_;refine z6 (zH (j:=w64 ((a0.length:Int)-1)) zn 1 hx1 Z Z Z Z) Z ?_;refine TL.op (OpR.alloc Z Z (fun _=>Z)) Z (fun p2=>?_);refine zv (OpR.store 8 Z Z Z Z Z Z Z Z) ?_;refine aN Z ?_;refine aS ?_;iterate 4 refine aA rfl rfl ?_
 refine z6 (z7 0 Z Z Z Z) Z ?_;refine aA Z Z ?_;obtain⟨x3,hx3,h0⟩:=bS h0;refine z6 (wK zn 1 hx3 Z Z Z Z Z Z BdM.none (BdM.some Z)) Z ?_;iterate 2 refine aA rfl rfl ?_
 refine zv (OpR.store 0 Z Z Z Z Z Z Z Z) ?_;refine aN Z ?_;refine T.ghost (qN (ow:=[.var b0 [.val (vw v1 (0:Int).toNat (w64 ((a0.length:Int)-1):Int).toNat 2),.fn (.func 190) [] [dP b2,dP b3]] 355,.row v1 (List.map zn a0) 2 357,.var b2 [.fn (.func 170) [] [dP b4,dP b5]] 170,.var b3 [.sl 3 (List.map z8 a1)] 163,.var b4 [.sl 2 (List.map zg a2)] 104,.var b5 [dP b6] 28,.var b6 [.val v7] 264,.row v7 (lB a3) 1 5,.var (blk p2) [.sl 1 (List.map (eI .i64) x1.fRest),dN x1.fWhich] 357]) zn 1 hx3 Z Z) ?_;refine aS ?_;refine z6 (z7 8 Z Z Z Z) Z ?_;refine z6 (ux Z Z Z) Z ?_;refine aA Z Z ?_;refine aN Z ?_;refine T.ret ?_;obtain rfl:=osi h0;exact rP [0,1,2,3,4,5,6,7] [2] [0,1,2,3,4,5,6,7] Z Z Z (.tuple #[(vw v1 (0:Int).toNat (w64 ((a0.length:Int)-1):Int).toNat 2)]) (cT Z ResL.nil) Z Z Z Z
noncomputable def vV (a0:List merge_run_int) (a1:List row_Row) (a2:List order_By) (a3:List UInt8):Option (merge_run_int × (List merge_run_int)):=
 bnd (wC a0 a1 a2 a3) fun x1=>
 bnd (wm 0 (w64 (x1-1)) a0 a1 a2 a3) fun x2=>
 bnd (xr 0 (w64 (x1-1)) x2 a1 a2 a3) fun x3=>
 bnd (tb x3.2 a1 a2 a3) fun x4=>
 some (x4.1,x4.2)
theorem qU {a0:List merge_run_int} {a1:List row_Row} {a2:List order_By} {a3:List UInt8} {b0:Nat} {v1:Value} {b2:Nat} {b3:Nat} {b4:Nat} {b5:Nat} {b6:Nat} {v7:Value} {res:merge_run_int × (List merge_run_int)} (h0:vV a0 a1 a2 a3=some res):zo X 243 [.ifc 352 (dP b0)] [.var b0 [.val v1,.fn (.func 190) [] [dP b2,dP b3]] 355,.row v1 (List.map zn a0) 2 357,.var b2 [.fn (.func 170) [] [dP b4,dP b5]] 170,.var b3 [.sl 3 (List.map z8 a1)] 163,.var b4 [.sl 2 (List.map zg a2)] 104,.var b5 [dP b6] 28,.var b6 [.val v7] 264,.row v7 (lB a3) 1 5] (fun x=>.ifc 357 (.agg [.sl 1 (List.map (eI .i64) res.1.fRest),dN res.1.fWhich])) (fun x=>[.var b0 [.val (vn x 0),.fn (.func 190) [] [dP b2,dP b3]] 355,.row (vn x 0) (List.map zn res.2) 2 357,.var b2 [.fn (.func 170) [] [dP b4,dP b5]] 170,.var b3 [.sl 3 (List.map z8 a1)] 163,.var b4 [.sl 2 (List.map zg a2)] 104,.var b5 [dP b6] 28,.var b6 [.val v7] 264,.row v7 (lB a3) 1 5]):=by
 unfold vV at h0;refine zb (X:=X) Z Tryz.func243 Z Z Tryz.ntmps243 Z Z ?_;refine aS ?_;refine aA Z Z ?_;refine aN Z ?_;refine aS ?_;refine aA Z Z ?_;obtain⟨x1,hx1,h0⟩:=bS h0;refine z6 (xC [0,1,2,3,4,5,6,7] Z mt352_Len fn268 (vy hx1) Z Z Z (fun _=>Z)) Z ?_;iterate 2 refine aA rfl rfl ?_
 refine aN Z ?_;refine aS ?_;iterate 2 refine aA rfl rfl ?_
 obtain⟨x2,hx2,h0⟩:=bS h0;refine z6 (xC [0,1,2,3,4,5,6,7] Z mt352_Swap fn305 (ue hx2) Z Z Z (fun _=>Z)) Z ?_;refine aN Z ?_;refine aS ?_;iterate 2 refine aA rfl rfl ?_
 obtain⟨x3,hx3,h0⟩:=bS h0;refine z6 (OpR.call [0,1,2,3,4,5,6,7] fn265 (tK hx3) Z Z Z (fun _=>Z)) Z ?_;refine aN Z ?_;refine aS ?_;refine aA Z Z ?_;obtain⟨x4,hx4,h0⟩:=bS h0;refine TL.op (xC [0,1,2,3,4,5,6,7] Z mt352_Pop fn303 (qR hx4) Z Z Z (fun _=>Z)) Z (fun w5=>?_);refine aA Z Z ?_;refine aN Z ?_;refine T.ret ?_;obtain rfl:=osi h0;exact rO [0,1,2,3,4,5,6,7] [2] Z (.tuple #[(vn w5 0)]) (cT Z ResL.nil) Z Z Z Z
noncomputable def vW (a0:Int) (a1:List merge_run_int) (a2:List row_Row) (a3:List order_By) (a4:List UInt8):Option (List merge_run_int):=
 bnd (wC a1 a2 a3 a4) fun x1=>
 bnd (xr a0 x1 a1 a2 a3 a4) fun x2=>
 if x2.1=true then
 some x2.2
else
 bnd (xN a0 x2.2 a2 a3 a4) fun x4=>
 some x4
theorem qV {a0:Int} {a1:List merge_run_int} {a2:List row_Row} {a3:List order_By} {a4:List UInt8} {b0:Nat} {v1:Value} {b2:Nat} {b3:Nat} {b4:Nat} {b5:Nat} {b6:Nat} {v7:Value} {res:(List merge_run_int)} (h0:vW a0 a1 a2 a3 a4=some res):zo X 244 [.ifc 352 (dP b0),dN a0] [.var b0 [.val v1,.fn (.func 190) [] [dP b2,dP b3]] 355,.row v1 (List.map zn a1) 2 357,.var b2 [.fn (.func 170) [] [dP b4,dP b5]] 170,.var b3 [.sl 3 (List.map z8 a2)] 163,.var b4 [.sl 2 (List.map zg a3)] 104,.var b5 [dP b6] 28,.var b6 [.val v7] 264,.row v7 (lB a4) 1 5] (fun x=>.tup []) (fun x=>[.var b0 [.val v1,.fn (.func 190) [] [dP b2,dP b3]] 355,.row v1 (List.map zn res) 2 357,.var b2 [.fn (.func 170) [] [dP b4,dP b5]] 170,.var b3 [.sl 3 (List.map z8 a2)] 163,.var b4 [.sl 2 (List.map zg a3)] 104,.var b5 [dP b6] 28,.var b6 [.val v7] 264,.row v7 (lB a4) 1 5]):=by
 unfold vW at h0;refine zb (X:=X) Z Tryz.func244 Z Z Tryz.ntmps244 Z Z ?_;refine aS ?_;iterate 3 refine aA rfl rfl ?_
 obtain⟨x1,hx1,h0⟩:=bS h0;refine z6 (xC [0,1,2,3,4,5,6,7] Z mt352_Len fn268 (vy hx1) Z Z Z (fun _=>Z)) Z ?_;obtain⟨x2,hx2,h0⟩:=bS h0;refine z6 (OpR.call [0,1,2,3,4,5,6,7] fn265 (tK hx2) Z Z Z (fun _=>Z)) Z ?_;refine aA Z Z ?_;refine aN Z ?_;rcases z9 h0 with ⟨c3,h0⟩|⟨c3,h0⟩
 ·refine ze Z (zQ (c3)) ?_;refine T.skip ?_;obtain rfl:=osi h0;exact xg (ks:=[0,1,2,3,4,5,6,7]) (Gst.only [] Z) undef ResL.nil Z Z Z Z
 refine zf Z (zR (eN c3)) ?_;refine T.region ?_;iterate 2 refine aA rfl rfl ?_
 obtain⟨x4,hx4,h0⟩:=bS h0;refine z6 (OpR.call [0,1,2,3,4,5,6,7] fn264 (sG hx4) Z Z Z (fun _=>Z)) Z ?_;refine TL.nil ?_;obtain rfl:=osi h0;exact xg (ks:=[0,1,2,3,4,5,6,7]) (Gst.only [] Z) undef ResL.nil Z Z Z Z
end Go.Proofs.YtpmhiiemklhbhaaGreat.S
