/- Printed by a program of this session's own (gen.py): Lean functions for Go functions, and the proofs that the Go code comes to their answers. -/
import Derived.Test.YtbcbggdgkdfciaaG1xb
set_option maxHeartbeats 4000000
set_option linter.unusedVariables false
set_option linter.unusedSimpArgs false
set_option maxRecDepth 20000
namespace Go.Proofs.Ytbcbggdgkdfciaa.S
open Go Go.Sm
attribute [local irreducible] T TL OpR CallT iter loop
noncomputable def walk_stack_row_Row_forth.l1 (s7 : (List wFr)) : Option (Lp (List wFr) (Ex (List wFr) (Bool × (List wFr)))) :=
  if (s7.length : Int) > 0 then
    bnd (walk_stack_row_Row_top s7) fun x16 =>
    bnd (idx s7 x16) fun x17 =>
    bnd (some x17.fN) fun q18 => match q18 with
      | none =>
        none
      | some z19 =>
        bnd (o_tNd z19) fun x21 =>
        bnd (idx x21.fKids x17.fNext) fun x23 =>
        bnd (o_tNd x23) fun x24 =>
        bnd (idx (s7.set x16.toNat (⟨x17.fN, w64 (x17.fFirst + x24.fN), x17.fNext⟩ : wFr)) x16) fun x25 =>
        bnd (idx ((s7.set x16.toNat (⟨x17.fN, w64 (x17.fFirst + x24.fN), x17.fNext⟩ : wFr)).set x16.toNat (⟨x25.fN, x25.fFirst, w64 (x25.fNext + 1)⟩ : wFr)) x16) fun x26 =>
        bnd (some x26.fN) fun q27 => match q27 with
          | none =>
            none
          | some z28 =>
            bnd (o_tNd z28) fun x30 =>
            if x26.fNext < (x30.fKids.length : Int) then
              bnd (idx x30.fKids x26.fNext) fun x34 =>
              bnd (o_tNd x34) fun x35 =>
              bnd (walk_stack_row_Row_down_2 x35.fKids x35.fItems x35.fN x26.fFirst x26.fFirst ((s7.set x16.toNat (⟨x17.fN, w64 (x17.fFirst + x24.fN), x17.fNext⟩ : wFr)).set x16.toNat (⟨x25.fN, x25.fFirst, w64 (x25.fNext + 1)⟩ : wFr))) fun x36 =>
              some (Lp.done (Ex.ret (true, x36)))
            else
              bnd (some (((s7.set x16.toNat (⟨x17.fN, w64 (x17.fFirst + x24.fN), x17.fNext⟩ : wFr)).set x16.toNat (⟨x25.fN, x25.fFirst, w64 (x25.fNext + 1)⟩ : wFr)).length : Int)) fun x38 =>
              bnd (cut ((s7.set x16.toNat (⟨x17.fN, w64 (x17.fFirst + x24.fN), x17.fNext⟩ : wFr)).set x16.toNat (⟨x25.fN, x25.fFirst, w64 (x25.fNext + 1)⟩ : wFr)) 0 (w64 (x38 - 1))) fun x39 =>
              some (Lp.next x39)
  else
    some (Lp.done (Ex.brk s7))
noncomputable def walk_stack_row_Row_forth (a0 : List wFr) : Option (Bool × (List wFr)) :=
  bnd (cut a0 0 (w64 ((a0.length : Int) - 1))) fun x2 =>
  bnd (loop walk_stack_row_Row_forth.l1 x2 : Option (Ex (List wFr) (Bool × (List wFr)))) fun t3 => match t3 with
    | .brk u4 =>
      some (false, u4)
    | .ret u4 => some u4
theorem walk_stack_row_Row_forth_c {a0 : List wFr} {b0 : Nat} {v1 : Value} {res : Bool × (List wFr)} (h0 : walk_stack_row_Row_forth a0 = some res) : CallF X 198 [dP b0] [.var b0 [.val v1] 272, .row v1 (List.map e_wFr a0) 3 278] (fun x => (dT res.1)) (fun x => [.var b0 [.val (vn x 0)] 272, .row (vn x 0) (List.map e_wFr res.2) 3 278]) := by
 unfold walk_stack_row_Row_forth at h0
 refine CallF.mkG (X := X) rfl Try.func198 rfl rfl Try.ntmps198 rfl rfl ?_
 refine aS ?_
 refine aA rfl rfl ?_
 refine aN rfl ?_
 refine T.seq ?_
 obtain ⟨x2, hx2, h0⟩ := bS h0
 refine T.drawS drawsX (fun env1 => [dP b0, dP b0, dP b0, dP b0, .val v1, dP b0, dP b0, dP b0, .val v1, dN (a0.length : Int), dN (w64 ((a0.length : Int) - 1)), .val (vw v1 (0 : Int).toNat (w64 ((a0.length : Int) - 1) : Int).toNat 3), dP b0, dP b0, .dead]) (fun D env1 => [(bif D 14 then .var b0 [.val (vw v1 (0 : Int).toNat (w64 ((a0.length : Int) - 1) : Int).toNat 3)] 272 else .var b0 [.val v1] 272), .row v1 (List.map e_wFr a0) 3 278]) [0, 0, 2, 6, 14, 0, 32, 96, 224, 480, 992, 2046, 4095, 8191, 16383] [0, 2] _ (by decide +kernel) (by decide +kernel) (fun _ => rfl) (fun _ => rfl) ?_ (fun _ => rfl) (fun _ => rfl) ?_
 · iterate 4 refine aC ?_
   refine OpsS.cons' true ?_ (fun _ _ _ _ _ _ _ => rfl) ?_
   · intro D env1 hA
     have e14 : D 14 = false := hA.no 14 _ rfl rfl
     exact OpS.yp [(14, false)] ⟨e14, trivial⟩ (Want.plain rfl) (OpR.loadPtr 0 rfl rfl rfl rfl) (fun x => rfl) (fun x => rfl)
   iterate 3 refine aC ?_
   refine OpsS.cons' true ?_ (fun _ _ _ _ _ _ _ => rfl) ?_
   · intro D env1 hA
     have e14 : D 14 = false := hA.no 14 _ rfl rfl
     exact OpS.yp [(14, false)] ⟨e14, trivial⟩ (Want.plain rfl) (OpR.loadPtr 0 rfl rfl rfl rfl) (fun x => rfl) (fun x => rfl)
   refine oT ((dN (a0.length : Int))) (fun _ _ => OpR.rowLenM e_wFr 1 rfl rfl rfl rfl) ?_
   refine aC ?_
   refine oT (.val (vw v1 (0 : Int).toNat (w64 ((a0.length : Int) - 1) : Int).toNat 3)) (fun _ _ => OpR.sliceRowM e_wFr 1 hx2 rfl rfl rfl rfl rfl rfl BdM.none (BdM.some rfl)) ?_
   iterate 2 refine aC ?_
   refine OpsS.cons' true ?_ (fun _ _ _ _ _ _ _ => rfl) ?_
   · intro D env1 hA
     exact OpS.yp [(14, false)] ⟨hA.me, trivial⟩ (Want.plain rfl) (OpR.store 0 rfl rfl rfl rfl rfl rfl rfl rfl) (fun x => rfl) (fun x => rfl)
   exact trivial
 intro env1
 show T X _ _ _
 refine T.ghost (Gst.truncM (ow := [.var b0 [.val (vw v1 (0 : Int).toNat (w64 ((a0.length : Int) - 1) : Int).toNat 3)] 272, .row v1 (List.map e_wFr a0) 3 278]) e_wFr 1 hx2 rfl rfl) ?_
 refine T.seq ?_
 obtain ⟨t3, ht3, h0⟩ := bS h0
 refine T.cutC (fun S' => ∃ u4, t3 = Ex.brk u4 ∧ ∃ y5 : Value, S' = ⟨[(2, (dT false))], [.var b0 [.val y5] 272, .row y5 (List.map e_wFr u4) 3 278], 106⟩) (fun _ h => h) ?_ ?_
 rotate_left
 · rintro _ ⟨u4, rfl, y5, rfl⟩
   show T X _ _ _
   refine aS ?_
   refine aA rfl rfl ?_
   refine aN rfl ?_
   refine T.ret ?_
   obtain rfl := osi h0
   exact rO [0, 1] [2] rfl (.tuple #[y5]) (cT rfl ResL.nil) rfl rfl rfl rfl
 refine T.block ?_
 obtain ⟨n8, n13⟩ := loop_some ht3
 refine T.loop (fun n S' => ∃ S'', Gst S' S'' ∧ ∃ y6 : Value, ∃ s7 : (List wFr), S'' = ⟨[(2, (dT false)), (0, (dP b0))], [.var b0 [.val y6] 272, .row y6 (List.map e_wFr s7) 3 278], 106⟩ ∧ iter walk_stack_row_Row_forth.l1 n s7 = some t3) n8 ?_ ?_
 · exact ⟨_, Gst.only [0, 2] rfl, (vw v1 (0 : Int).toNat (w64 ((a0.length : Int) - 1) : Int).toNat 3), x2, rfl, n13⟩
 rintro n8 _ ⟨_, g, y6, s7, rfl, i12⟩
 refine T.ghost g ?_
 obtain ⟨m9, q10, rfl, q11, i12⟩ := iter_succ i12
 unfold walk_stack_row_Row_forth.l1 at q11
 refine T.seq ?_
 refine aS ?_
 iterate 3 refine aA rfl rfl ?_
 refine TL.op1 (OpR.loadPtr 0 rfl rfl rfl rfl) rfl ?_
 refine TL.op1 (OpR.rowLenM e_wFr 1 rfl rfl rfl rfl) rfl ?_
 refine aA rfl rfl ?_
 refine aN rfl ?_
 rcases ite_some q11 with ⟨c15, q11⟩ | ⟨c15, q11⟩
 rotate_left
 · refine T.condF rfl (eF c15) ?_
   refine T.exit ?_
   obtain rfl := osi q11
   obtain rfl : _ = _ := i12
   exact ⟨_, Gst.only [2] rfl, _, rfl, y6, rfl⟩
 refine T.condT rfl (eT c15) ?_
 refine aK rfl ?_
 refine T.block ?_
 refine aS ?_
 refine aA rfl rfl ?_
 obtain ⟨x16, hx16, q11⟩ := bS q11
 refine TL.op1 (OpR.call [0, 1] fn197 (walk_stack_row_Row_top_c hx16) rfl rfl rfl (fun _ => rfl)) rfl ?_
 refine aA rfl rfl ?_
 refine aN rfl ?_
 refine T.seq ?_
 obtain ⟨x17, hx17, q11⟩ := bS q11
 obtain ⟨q18, hq18, q11⟩ := bS q11
 rcases q18 with _ | z19
 · dsimp only at q11
   exact (by cases q11)
 dsimp only at q11
 obtain ⟨x21, hx21, q11⟩ := bS q11
 rw [o_tNd_eq hx21] at hq18
 obtain ⟨x23, hx23, q11⟩ := bS q11
 obtain ⟨x24, hx24, q11⟩ := bS q11
 rw [o_tNd_eq hx24] at hx23
 refine T.drawS drawsX (fun env22 => [.val (.pointer (some ⟨blk y6, x16.toNat * 3, none⟩)), .val (.pointer (some ⟨blk y6, x16.toNat * 3, none⟩)), .val (.pointer (some ⟨blk y6, x16.toNat * 3 + 1, none⟩)), dN x17.fFirst, .val (.pointer (some ⟨blk y6, x16.toNat * 3, none⟩)), .val (.pointer (some ⟨blk y6, x16.toNat * 3, none⟩)), .val (.pointer (some ⟨blk y6, x16.toNat * 3, none⟩)), .nod [.sl 1 (List.map eNP x21.fKids), .sl 3 (List.map e_row_Row x21.fItems), dN x21.fN], .nod [.sl 1 (List.map eNP x21.fKids), .sl 3 (List.map e_row_Row x21.fItems), dN x21.fN], .nod [.sl 1 (List.map eNP x21.fKids), .sl 3 (List.map e_row_Row x21.fItems), dN x21.fN], .sl 1 (List.map eNP x21.fKids), .val (.pointer (some ⟨blk y6, x16.toNat * 3, none⟩)), .val (.pointer (some ⟨blk y6, x16.toNat * 3, none⟩)), .val (.pointer (some ⟨blk y6, x16.toNat * 3 + 2, none⟩)), dN x17.fNext, .nod [.nod [.sl 1 (List.map eNP x24.fKids), .sl 3 (List.map e_row_Row x24.fItems), dN x24.fN]], .nod [.sl 1 (List.map eNP x24.fKids), .sl 3 (List.map e_row_Row x24.fItems), dN x24.fN], .nod [.sl 1 (List.map eNP x24.fKids), .sl 3 (List.map e_row_Row x24.fItems), dN x24.fN], .nod [dN x24.fN], dN x24.fN, dN (w64 (x17.fFirst + x24.fN)), .val (.pointer (some ⟨blk y6, x16.toNat * 3, none⟩)), .val (.pointer (some ⟨blk y6, x16.toNat * 3 + 1, none⟩)), .dead]) (fun D env22 => [.var b0 [.val y6] 272, (bif D 23 then .row y6 (List.map e_wFr (s7.set x16.toNat (⟨x17.fN, w64 (x17.fFirst + x24.fN), x17.fNext⟩ : wFr))) 3 278 else .row y6 (List.map e_wFr s7) 3 278)]) [0, 1, 3, 7, 0, 16, 48, 112, 240, 496, 1008, 0, 2048, 6144, 14336, 32752, 65520, 131056, 262128, 524272, 1048575, 2097151, 4194303, 8388607] [0, 2, 3] _ (by decide +kernel) (by decide +kernel) (fun _ => rfl) (fun _ => rfl) ?_ (fun _ => rfl) (fun _ => rfl) ?_
 · iterate 3 refine aC ?_
   refine OpsS.cons' true ?_ (fun _ _ _ _ _ _ _ => rfl) ?_
   · intro D env22 hA
     have e23 : D 23 = false := hA.no 23 _ rfl rfl
     exact OpS.yp [(23, false)] ⟨e23, trivial⟩ (Want.plain rfl) (OpR.rowLoadM (j := x16) e_wFr 1 hx17 rfl rfl rfl rfl) (fun x => rfl) (fun x => rfl)
   iterate 3 refine aC ?_
   refine OpsS.cons' true ?_ (fun _ _ _ _ _ _ _ => rfl) ?_
   · intro D env22 hA
     have e23 : D 23 = false := hA.no 23 _ rfl rfl
     exact OpS.yp [(23, false)] ⟨e23, trivial⟩ (Want.plain rfl) (OpR.cast (OpR.rowLoad0M (j := x16) e_wFr 1 hx17 rfl rfl rfl rfl) (congrArg eOP (osi hq18))) (fun x => rfl) (fun x => rfl)
   iterate 6 refine aC ?_
   refine OpsS.cons' true ?_ (fun _ _ _ _ _ _ _ => rfl) ?_
   · intro D env22 hA
     have e23 : D 23 = false := hA.no 23 _ rfl rfl
     exact OpS.yp [(23, false)] ⟨e23, trivial⟩ (Want.plain rfl) (OpR.rowLoadM (j := x16) e_wFr 1 hx17 rfl rfl rfl rfl) (fun x => rfl) (fun x => rfl)
   refine oT (.nod [.nod [.sl 1 (List.map eNP x24.fKids), .sl 3 (List.map e_row_Row x24.fItems), dN x24.fN]]) (fun _ _ => OpR.indexM eNP hx23 rfl rfl rfl rfl rfl) ?_
   iterate 7 refine aC ?_
   refine OpsS.cons' true ?_ (fun _ _ _ _ _ _ _ => rfl) ?_
   · intro D env22 hA
     exact OpS.yp [(23, false)] ⟨hA.me, trivial⟩ (Want.plain rfl) (OpR.rowStoreM (j := x16) e_wFr (⟨x17.fN, w64 (x17.fFirst + x24.fN), x17.fNext⟩ : wFr) 1 hx17 rfl rfl rfl rfl rfl rfl rfl rfl rfl) (fun x => rfl) (fun x => rfl)
   exact trivial
 intro env22
 show T X _ _ _
 refine aS ?_
 iterate 3 refine aA rfl rfl ?_
 obtain ⟨x25, hx25, q11⟩ := bS q11
 refine TL.op1 (OpR.rowLoadM (j := x16) e_wFr 1 hx25 rfl rfl rfl rfl) rfl ?_
 iterate 3 refine aA rfl rfl ?_
 refine TL.op0 (OpR.rowStoreM (j := x16) e_wFr (⟨x25.fN, x25.fFirst, w64 (x25.fNext + 1)⟩ : wFr) 1 hx25 rfl rfl rfl rfl rfl rfl rfl rfl rfl) ?_
 refine aN rfl ?_
 refine T.seq ?_
 refine T.seq ?_
 obtain ⟨x26, hx26, q11⟩ := bS q11
 obtain ⟨q27, hq27, q11⟩ := bS q11
 rcases q27 with _ | z28
 · dsimp only at q11
   exact (by cases q11)
 dsimp only at q11
 obtain ⟨x30, hx30, q11⟩ := bS q11
 rw [o_tNd_eq hx30] at hq27
 refine T.drawQ drawsX [.val (.pointer (some ⟨blk y6, x16.toNat * 3, none⟩)), .val (.pointer (some ⟨blk y6, x16.toNat * 3, none⟩)), .val (.pointer (some ⟨blk y6, x16.toNat * 3 + 2, none⟩)), dN x26.fNext, .val (.pointer (some ⟨blk y6, x16.toNat * 3, none⟩)), .val (.pointer (some ⟨blk y6, x16.toNat * 3, none⟩)), .val (.pointer (some ⟨blk y6, x16.toNat * 3, none⟩)), .nod [.sl 1 (List.map eNP x30.fKids), .sl 3 (List.map e_row_Row x30.fItems), dN x30.fN], .nod [.sl 1 (List.map eNP x30.fKids), .sl 3 (List.map e_row_Row x30.fItems), dN x30.fN], .nod [.sl 1 (List.map eNP x30.fKids), .sl 3 (List.map e_row_Row x30.fItems), dN x30.fN], .sl 1 (List.map eNP x30.fKids), dN (x30.fKids.length : Int), dT (decide (x26.fNext < (x30.fKids.length : Int)))] [0, 2, 3, 68] (by decide +kernel) rfl ?_ rfl ?_
 · iterate 3 refine aB rfl rfl rfl ?_
   refine OpsQ.yes (Want.plain rfl) rfl (OpR.rowLoadM (j := x16) e_wFr 1 hx26 rfl rfl rfl rfl) ?_
   iterate 3 refine aB rfl rfl rfl ?_
   refine OpsQ.yes (Want.plain rfl) rfl (OpR.cast (OpR.rowLoad0M (j := x16) e_wFr 1 hx26 rfl rfl rfl rfl) (congrArg eOP (osi hq27))) ?_
   iterate 3 refine aB rfl rfl rfl ?_
   refine OpsQ.yes (Want.plain rfl) rfl (OpR.cast (OpR.pure rfl) (intE (lenM _ _))) ?_
   refine aB rfl rfl rfl ?_
   exact OpsQ.nil
 show T X _ _ _
 rcases ite_some q11 with ⟨c32, q11⟩ | ⟨c32, q11⟩
 rotate_left
 · refine T.condF rfl (eF c32) ?_
   refine aK rfl ?_
   obtain ⟨x38, hx38, q11⟩ := bS q11
   obtain ⟨x39, hx39, q11⟩ := bS q11
   refine T.drawS drawsX (fun env37 => [dP b0, dP b0, dP b0, dP b0, .val y6, dP b0, dP b0, dP b0, .val y6, dN x38, dN (w64 (x38 - 1)), .val (vw y6 (0 : Int).toNat (w64 (x38 - 1) : Int).toNat 3), dP b0, dP b0, .dead]) (fun D env37 => [(bif D 14 then .var b0 [.val (vw y6 (0 : Int).toNat (w64 (x38 - 1) : Int).toNat 3)] 272 else .var b0 [.val y6] 272), .row y6 (List.map e_wFr ((s7.set x16.toNat (⟨x17.fN, w64 (x17.fFirst + x24.fN), x17.fNext⟩ : wFr)).set x16.toNat (⟨x25.fN, x25.fFirst, w64 (x25.fNext + 1)⟩ : wFr))) 3 278]) [0, 0, 2, 6, 14, 0, 32, 96, 224, 480, 992, 2046, 4095, 8191, 16383] [0, 2] _ (by decide +kernel) (by decide +kernel) (fun _ => rfl) (fun _ => rfl) ?_ (fun _ => rfl) (fun _ => rfl) ?_
   rotate_left
   · intro env37
     obtain rfl := osi q11
     exact ⟨m9, Nat.lt_succ_self _, _, Gst.trans (Gst.truncM (ow := [.var b0 [.val (vw y6 (0 : Int).toNat (w64 (x38 - 1) : Int).toNat 3)] 272, .row y6 (List.map e_wFr ((s7.set x16.toNat (⟨x17.fN, w64 (x17.fFirst + x24.fN), x17.fNext⟩ : wFr)).set x16.toNat (⟨x25.fN, x25.fFirst, w64 (x25.fNext + 1)⟩ : wFr))) 3 278]) e_wFr 1 hx39 rfl rfl) (Gst.only [0, 2] rfl), (vw y6 (0 : Int).toNat (w64 (x38 - 1) : Int).toNat 3), x39, rfl, i12⟩
   iterate 4 refine aC ?_
   refine OpsS.cons' true ?_ (fun _ _ _ _ _ _ _ => rfl) ?_
   · intro D env37 hA
     have e14 : D 14 = false := hA.no 14 _ rfl rfl
     exact OpS.yp [(14, false)] ⟨e14, trivial⟩ (Want.plain rfl) (OpR.loadPtr 0 rfl rfl rfl rfl) (fun x => rfl) (fun x => rfl)
   iterate 3 refine aC ?_
   refine OpsS.cons' true ?_ (fun _ _ _ _ _ _ _ => rfl) ?_
   · intro D env37 hA
     have e14 : D 14 = false := hA.no 14 _ rfl rfl
     exact OpS.yp [(14, false)] ⟨e14, trivial⟩ (Want.plain rfl) (OpR.loadPtr 0 rfl rfl rfl rfl) (fun x => rfl) (fun x => rfl)
   refine oT ((dN x38)) (fun _ _ => OpR.cast (OpR.rowLenM e_wFr 1 rfl rfl rfl rfl) (intE (osi hx38))) ?_
   refine aC ?_
   refine oT (.val (vw y6 (0 : Int).toNat (w64 (x38 - 1) : Int).toNat 3)) (fun _ _ => OpR.sliceRowM e_wFr 1 hx39 rfl rfl rfl rfl rfl rfl BdM.none (BdM.some rfl)) ?_
   iterate 2 refine aC ?_
   refine OpsS.cons' true ?_ (fun _ _ _ _ _ _ _ => rfl) ?_
   · intro D env37 hA
     exact OpS.yp [(14, false)] ⟨hA.me, trivial⟩ (Want.plain rfl) (OpR.store 0 rfl rfl rfl rfl rfl rfl rfl rfl) (fun x => rfl) (fun x => rfl)
   exact trivial
 refine T.condT rfl (eT c32) ?_
 refine T.seq ?_
 obtain ⟨x34, hx34, q11⟩ := bS q11
 obtain ⟨x35, hx35, q11⟩ := bS q11
 rw [o_tNd_eq hx35] at hx34
 obtain ⟨x36, hx36, q11⟩ := bS q11
 refine T.drawS drawsX (fun env33 => [dP b0, .val (.pointer (some ⟨blk y6, x16.toNat * 3, none⟩)), .val (.pointer (some ⟨blk y6, x16.toNat * 3, none⟩)), .val (.pointer (some ⟨blk y6, x16.toNat * 3, none⟩)), .nod [.sl 1 (List.map eNP x30.fKids), .sl 3 (List.map e_row_Row x30.fItems), dN x30.fN], .nod [.sl 1 (List.map eNP x30.fKids), .sl 3 (List.map e_row_Row x30.fItems), dN x30.fN], .nod [.sl 1 (List.map eNP x30.fKids), .sl 3 (List.map e_row_Row x30.fItems), dN x30.fN], .sl 1 (List.map eNP x30.fKids), .val (.pointer (some ⟨blk y6, x16.toNat * 3, none⟩)), .val (.pointer (some ⟨blk y6, x16.toNat * 3, none⟩)), .val (.pointer (some ⟨blk y6, x16.toNat * 3 + 2, none⟩)), dN x26.fNext, .nod [.nod [.sl 1 (List.map eNP x35.fKids), .sl 3 (List.map e_row_Row x35.fItems), dN x35.fN]], .nod [.sl 1 (List.map eNP x35.fKids), .sl 3 (List.map e_row_Row x35.fItems), dN x35.fN], .val (.pointer (some ⟨blk y6, x16.toNat * 3, none⟩)), .val (.pointer (some ⟨blk y6, x16.toNat * 3, none⟩)), .val (.pointer (some ⟨blk y6, x16.toNat * 3 + 1, none⟩)), dN x26.fFirst, .val (.pointer (some ⟨blk y6, x16.toNat * 3, none⟩)), .val (.pointer (some ⟨blk y6, x16.toNat * 3, none⟩)), .val (.pointer (some ⟨blk y6, x16.toNat * 3 + 1, none⟩)), dN x26.fFirst, .tup []]) (fun D env33 => [(bif D 22 then .var b0 [.val (vn (env33 22) 0)] 272 else .var b0 [.val y6] 272), (bif D 22 then .row (vn (env33 22) 0) (List.map e_wFr x36) 3 278 else .row y6 (List.map e_wFr ((s7.set x16.toNat (⟨x17.fN, w64 (x17.fFirst + x24.fN), x17.fNext⟩ : wFr)).set x16.toNat (⟨x25.fN, x25.fFirst, w64 (x25.fNext + 1)⟩ : wFr))) 3 278)]) [0, 0, 2, 6, 14, 30, 62, 126, 0, 256, 768, 1792, 4094, 8190, 0, 16384, 49152, 114688, 0, 262144, 786432, 1835008, 4194303] [0, 2] _ (by decide +kernel) (by decide +kernel) (fun _ => rfl) (fun _ => rfl) ?_ (fun _ => rfl) (fun _ => rfl) ?_
 rotate_left
 · intro env33
   show T X _ _ _
   refine aS ?_
   refine aA rfl rfl ?_
   refine aN rfl ?_
   refine T.ret ?_
   obtain rfl := osi q11
   obtain rfl : _ = _ := i12
   obtain rfl := osi h0
   exact rO [0, 1] [2] rfl (.tuple #[(vn (env33 22) 0)]) (cT rfl ResL.nil) rfl rfl rfl rfl
 iterate 4 refine aC ?_
 refine OpsS.cons' true ?_ (fun _ _ _ _ _ _ _ => rfl) ?_
 · intro D env33 hA
   have e22 : D 22 = false := hA.no 22 _ rfl rfl
   exact OpS.yp [(22, false)] ⟨e22, trivial⟩ (Want.plain rfl) (OpR.cast (OpR.rowLoad0M (j := x16) e_wFr 1 hx26 rfl rfl rfl rfl) (congrArg eOP (osi hq27))) (fun x => rfl) (fun x => rfl)
 iterate 6 refine aC ?_
 refine OpsS.cons' true ?_ (fun _ _ _ _ _ _ _ => rfl) ?_
 · intro D env33 hA
   have e22 : D 22 = false := hA.no 22 _ rfl rfl
   exact OpS.yp [(22, false)] ⟨e22, trivial⟩ (Want.plain rfl) (OpR.rowLoadM (j := x16) e_wFr 1 hx26 rfl rfl rfl rfl) (fun x => rfl) (fun x => rfl)
 refine oT (.nod [.nod [.sl 1 (List.map eNP x35.fKids), .sl 3 (List.map e_row_Row x35.fItems), dN x35.fN]]) (fun _ _ => OpR.indexM eNP hx34 rfl rfl rfl rfl rfl) ?_
 iterate 4 refine aC ?_
 refine OpsS.cons' true ?_ (fun _ _ _ _ _ _ _ => rfl) ?_
 · intro D env33 hA
   have e22 : D 22 = false := hA.no 22 _ rfl rfl
   exact OpS.yp [(22, false)] ⟨e22, trivial⟩ (Want.plain rfl) (OpR.rowLoadM (j := x16) e_wFr 1 hx26 rfl rfl rfl rfl) (fun x => rfl) (fun x => rfl)
 iterate 3 refine aC ?_
 refine OpsS.cons' true ?_ (fun _ _ _ _ _ _ _ => rfl) ?_
 · intro D env33 hA
   have e22 : D 22 = false := hA.no 22 _ rfl rfl
   exact OpS.yp [(22, false)] ⟨e22, trivial⟩ (Want.plain rfl) (OpR.rowLoadM (j := x16) e_wFr 1 hx26 rfl rfl rfl rfl) (fun x => rfl) (fun x => rfl)
 refine OpsS.cons' true ?_ (fun D hA env33 x j hj hD => match j, hj, hD with | 0, _, _ => rfl | 1, _, _ => rfl | 2, _, _ => rfl | 3, _, _ => rfl | 4, _, _ => rfl | 5, _, _ => rfl | 6, _, _ => rfl | 7, _, _ => rfl | 8, _, _ => rfl | 9, _, _ => rfl | 10, _, _ => rfl | 11, _, _ => rfl | 12, _, _ => rfl | 13, _, _ => rfl | 14, _, _ => rfl | 15, _, _ => rfl | 16, _, _ => rfl | 17, _, _ => rfl | 18, _, _ => rfl | 19, _, _ => rfl | 20, _, _ => rfl | 21, _, _ => rfl | 22, hj, _ => absurd rfl hj | _ + 23, _, _ => rfl) ?_
 · intro D env33 hA
   exact OpS.yp [(22, false)] ⟨hA.me, trivial⟩ (Want.plain rfl) (OpR.call [0, 1] fn195 (walk_stack_row_Row_down_2_c hx36) rfl rfl rfl (fun _ => rfl)) (fun x => rfl) (fun x => rfl)
 exact trivial
noncomputable def arena_Arena_Right (a0 : arena_Span) (a1 : List UInt8) : Option Bool :=
  bnd (if a0.fAt ≥ 0 then
    if a0.fN ≥ 0 then
      if a0.fAt ≤ (a1.length : Int) then
        some (decide (a0.fN ≤ (w64 ((a1.length : Int) - a0.fAt))))
      else
        some false
    else
      some false
  else
    some false : Option Bool) fun t1 =>
  some t1
theorem arena_Arena_Right_c {a0 : arena_Span} {a1 : List UInt8} {b0 : Nat} {v1 : Value} {res : Bool} (h0 : arena_Arena_Right a0 a1 = some res) : CallF X 187 [dP b0, .agg [dN a0.fAt, dN a0.fN]] [.var b0 [.val v1] 142, .row v1 (lB a1) 1 5] (fun x => (dT res)) (fun x => [.var b0 [.val v1] 142, .row v1 (lB a1) 1 5]) := by
 unfold arena_Arena_Right at h0
 refine CallF.mkG (X := X) rfl Try.func187 rfl rfl Try.ntmps187 rfl rfl ?_
 refine aS ?_
 refine TL.op1 (OpR.boxImm rfl rfl) rfl ?_
 refine aA rfl rfl ?_
 refine aN rfl ?_
 refine T.seq ?_
 refine aS ?_
 refine aA rfl rfl ?_
 refine TL.op1 (OpR.ptrNil (A := some ⟨b0, 0, none⟩) rfl rfl rfl) rfl ?_
 refine aN rfl ?_
 refine T.condF rfl rfl ?_
 refine aK rfl ?_
 refine T.seq ?_
 obtain ⟨t1, ht1, h0⟩ := bS h0
 refine T.cutC (fun S' => S' = ⟨[(4, (dT t1))], [.var b0 [.val v1] 142, .row v1 (lB a1) 1 5], 38⟩) (fun _ h => h) ?_ ?_
 rotate_left
 · rintro _ rfl
   show T X _ _ _
   refine T.ret ?_
   obtain rfl := osi h0
   exact rO [0, 1] [4] rfl undef (cT rfl ResL.nil) rfl rfl rfl rfl
 rcases ite_some ht1 with ⟨c3, ht1⟩ | ⟨c3, ht1⟩
 rotate_left
 · refine T.drawQ drawsX [.nod [dN a0.fAt, dN a0.fN], dN a0.fAt, dT (decide (a0.fAt ≥ 0)), dT (decide (a0.fAt ≥ 0)), .tup [], .tup [], .tup [], dT false, dT false, .tup [], .tup [], .tup [], .tup [], .tup [], .tup [], .tup [], .tup [], dT false, dT false, .tup [], .tup [], .tup [], .tup [], .tup [], .tup [], .tup [], .tup [], .tup [], .tup [], .tup [], dT false, dT false] [4] (by decide +kernel) rfl ?_ rfl ?_
   rotate_left
   · obtain rfl := osi ht1
     exact ⟨_, Gst.only [4] rfl, rfl⟩
   iterate 4 refine aB rfl rfl rfl ?_
   refine OpsQ.no (Want.bool rfl rfl rfl rfl (by rw [(eF c3)]; rfl)) rfl ?_
   refine OpsQ.no (Want.bool rfl rfl rfl rfl (by rw [(eF c3)]; rfl)) rfl ?_
   refine OpsQ.no (Want.bool rfl rfl rfl rfl (by rw [(eF c3)]; rfl)) rfl ?_
   refine OpsQ.yes (Want.plain rfl) rfl (OpR.pickF rfl (eF c3) rfl) ?_
   refine aB rfl rfl rfl ?_
   refine OpsQ.no (Want.bool rfl rfl rfl rfl rfl) rfl ?_
   refine OpsQ.no (Want.bool rfl rfl rfl rfl rfl) rfl ?_
   refine OpsQ.no (Want.bool rfl rfl rfl rfl rfl) rfl ?_
   refine OpsQ.no (Want.bool rfl rfl rfl rfl rfl) rfl ?_
   refine OpsQ.no (Want.bool rfl rfl rfl rfl rfl) rfl ?_
   refine OpsQ.no (Want.bool rfl rfl rfl rfl rfl) rfl ?_
   refine OpsQ.no (Want.bool rfl rfl rfl rfl rfl) rfl ?_
   refine OpsQ.no (Want.bool rfl rfl rfl rfl rfl) rfl ?_
   refine OpsQ.yes (Want.plain rfl) rfl (OpR.pickF rfl rfl rfl) ?_
   refine aB rfl rfl rfl ?_
   refine OpsQ.no (Want.bool rfl rfl rfl rfl rfl) rfl ?_
   refine OpsQ.no (Want.bool rfl rfl rfl rfl rfl) rfl ?_
   refine OpsQ.no (Want.bool rfl rfl rfl rfl rfl) rfl ?_
   refine OpsQ.no (Want.bool rfl rfl rfl rfl rfl) rfl ?_
   refine OpsQ.no (Want.bool rfl rfl rfl rfl rfl) rfl ?_
   refine OpsQ.no (Want.bool rfl rfl rfl rfl rfl) rfl ?_
   refine OpsQ.no (Want.bool rfl rfl rfl rfl rfl) rfl ?_
   refine OpsQ.no (Want.bool rfl rfl rfl rfl rfl) rfl ?_
   refine OpsQ.no (Want.bool rfl rfl rfl rfl rfl) rfl ?_
   refine OpsQ.no (Want.bool rfl rfl rfl rfl rfl) rfl ?_
   refine OpsQ.no (Want.bool rfl rfl rfl rfl rfl) rfl ?_
   refine OpsQ.yes (Want.plain rfl) rfl (OpR.pickF rfl rfl rfl) ?_
   refine aB rfl rfl rfl ?_
   exact OpsQ.nil
 rcases ite_some ht1 with ⟨c4, ht1⟩ | ⟨c4, ht1⟩
 rotate_left
 · refine T.drawQ drawsX [.nod [dN a0.fAt, dN a0.fN], dN a0.fAt, dT (decide (a0.fAt ≥ 0)), dT (decide (a0.fAt ≥ 0)), .nod [dN a0.fN], dN a0.fN, dT (decide (a0.fN ≥ 0)), dT (decide (a0.fN ≥ 0)), dT (decide (a0.fN ≥ 0)), .tup [], .tup [], .tup [], .tup [], .tup [], .tup [], .tup [], .tup [], dT false, dT false, .tup [], .tup [], .tup [], .tup [], .tup [], .tup [], .tup [], .tup [], .tup [], .tup [], .tup [], dT false, dT false] [4] (by decide +kernel) rfl ?_ rfl ?_
   rotate_left
   · obtain rfl := osi ht1
     exact ⟨_, Gst.only [4] rfl, rfl⟩
   iterate 4 refine aB rfl rfl rfl ?_
   refine OpsQ.yes (Want.bool rfl rfl rfl rfl (by rw [(eT c3)]; rfl)) rfl (OpR.pure rfl) ?_
   refine OpsQ.yes (Want.bool rfl rfl rfl rfl (by rw [(eT c3)]; rfl)) rfl (OpR.pure rfl) ?_
   refine OpsQ.yes (Want.bool rfl rfl rfl rfl (by rw [(eT c3)]; rfl)) rfl (OpR.pure rfl) ?_
   refine OpsQ.yes (Want.plain rfl) rfl (OpR.pickT rfl (eT c3) rfl) ?_
   refine aB rfl rfl rfl ?_
   refine OpsQ.no (Want.bool rfl rfl rfl rfl (by rw [(eF c4)]; rfl)) rfl ?_
   refine OpsQ.no (Want.bool rfl rfl rfl rfl (by rw [(eF c4)]; rfl)) rfl ?_
   refine OpsQ.no (Want.bool rfl rfl rfl rfl (by rw [(eF c4)]; rfl)) rfl ?_
   refine OpsQ.no (Want.bool rfl rfl rfl rfl (by rw [(eF c4)]; rfl)) rfl ?_
   refine OpsQ.no (Want.bool rfl rfl rfl rfl (by rw [(eF c4)]; rfl)) rfl ?_
   refine OpsQ.no (Want.bool rfl rfl rfl rfl (by rw [(eF c4)]; rfl)) rfl ?_
   refine OpsQ.no (Want.bool rfl rfl rfl rfl (by rw [(eF c4)]; rfl)) rfl ?_
   refine OpsQ.no (Want.bool rfl rfl rfl rfl (by rw [(eF c4)]; rfl)) rfl ?_
   refine OpsQ.yes (Want.plain rfl) rfl (OpR.pickF rfl (eF c4) rfl) ?_
   refine aB rfl rfl rfl ?_
   refine OpsQ.no (Want.bool rfl rfl rfl rfl rfl) rfl ?_
   refine OpsQ.no (Want.bool rfl rfl rfl rfl rfl) rfl ?_
   refine OpsQ.no (Want.bool rfl rfl rfl rfl rfl) rfl ?_
   refine OpsQ.no (Want.bool rfl rfl rfl rfl rfl) rfl ?_
   refine OpsQ.no (Want.bool rfl rfl rfl rfl rfl) rfl ?_
   refine OpsQ.no (Want.bool rfl rfl rfl rfl rfl) rfl ?_
   refine OpsQ.no (Want.bool rfl rfl rfl rfl rfl) rfl ?_
   refine OpsQ.no (Want.bool rfl rfl rfl rfl rfl) rfl ?_
   refine OpsQ.no (Want.bool rfl rfl rfl rfl rfl) rfl ?_
   refine OpsQ.no (Want.bool rfl rfl rfl rfl rfl) rfl ?_
   refine OpsQ.no (Want.bool rfl rfl rfl rfl rfl) rfl ?_
   refine OpsQ.yes (Want.plain rfl) rfl (OpR.pickF rfl rfl rfl) ?_
   refine aB rfl rfl rfl ?_
   exact OpsQ.nil
 rcases ite_some ht1 with ⟨c5, ht1⟩ | ⟨c5, ht1⟩
 rotate_left
 · refine T.drawQ drawsX [.nod [dN a0.fAt, dN a0.fN], dN a0.fAt, dT (decide (a0.fAt ≥ 0)), dT (decide (a0.fAt ≥ 0)), .nod [dN a0.fN], dN a0.fN, dT (decide (a0.fN ≥ 0)), dT (decide (a0.fN ≥ 0)), dT (decide (a0.fN ≥ 0)), .nod [dN a0.fAt, dN a0.fN], dN a0.fAt, dP b0, dP b0, dP b0, .val v1, dN (a1.length : Int), dT (decide (a0.fAt ≤ (a1.length : Int))), dT (decide (a0.fAt ≤ (a1.length : Int))), dT (decide (a0.fAt ≤ (a1.length : Int))), .tup [], .tup [], .tup [], .tup [], .tup [], .tup [], .tup [], .tup [], .tup [], .tup [], .tup [], dT false, dT false] [4] (by decide +kernel) rfl ?_ rfl ?_
   rotate_left
   · obtain rfl := osi ht1
     exact ⟨_, Gst.only [4] rfl, rfl⟩
   iterate 4 refine aB rfl rfl rfl ?_
   refine OpsQ.yes (Want.bool rfl rfl rfl rfl (by rw [(eT c3)]; rfl)) rfl (OpR.pure rfl) ?_
   refine OpsQ.yes (Want.bool rfl rfl rfl rfl (by rw [(eT c3)]; rfl)) rfl (OpR.pure rfl) ?_
   refine OpsQ.yes (Want.bool rfl rfl rfl rfl (by rw [(eT c3)]; rfl)) rfl (OpR.pure rfl) ?_
   refine OpsQ.yes (Want.plain rfl) rfl (OpR.pickT rfl (eT c3) rfl) ?_
   refine aB rfl rfl rfl ?_
   refine OpsQ.yes (Want.bool rfl rfl rfl rfl (by rw [(eT c4)]; rfl)) rfl (OpR.pure rfl) ?_
   refine OpsQ.yes (Want.bool rfl rfl rfl rfl (by rw [(eT c4)]; rfl)) rfl (OpR.pure rfl) ?_
   refine OpsQ.yes (Want.bool rfl rfl rfl rfl (by rw [(eT c4)]; rfl)) rfl (OpR.pure rfl) ?_
   refine OpsQ.yes (Want.bool rfl rfl rfl rfl (by rw [(eT c4)]; rfl)) rfl (OpR.pure rfl) ?_
   refine OpsQ.yes (Want.bool rfl rfl rfl rfl (by rw [(eT c4)]; rfl)) rfl (OpR.pure rfl) ?_
   refine OpsQ.yes (Want.bool rfl rfl rfl rfl (by rw [(eT c4)]; rfl)) rfl (OpR.loadPtr 0 rfl rfl rfl rfl) ?_
   refine OpsQ.yes (Want.bool rfl rfl rfl rfl (by rw [(eT c4)]; rfl)) rfl (OpR.rowLenM byteD 1 rfl rfl rfl rfl) ?_
   refine OpsQ.yes (Want.bool rfl rfl rfl rfl (by rw [(eT c4)]; rfl)) rfl (OpR.pure rfl) ?_
   refine OpsQ.yes (Want.plain rfl) rfl (OpR.pickT rfl (eT c4) rfl) ?_
   refine aB rfl rfl rfl ?_
   refine OpsQ.no (Want.bool rfl rfl rfl rfl (by rw [(eF c5)]; rfl)) rfl ?_
   refine OpsQ.no (Want.bool rfl rfl rfl rfl (by rw [(eF c5)]; rfl)) rfl ?_
   refine OpsQ.no (Want.bool rfl rfl rfl rfl (by rw [(eF c5)]; rfl)) rfl ?_
   refine OpsQ.no (Want.bool rfl rfl rfl rfl (by rw [(eF c5)]; rfl)) rfl ?_
   refine OpsQ.no (Want.bool rfl rfl rfl rfl (by rw [(eF c5)]; rfl)) rfl ?_
   refine OpsQ.no (Want.bool rfl rfl rfl rfl (by rw [(eF c5)]; rfl)) rfl ?_
   refine OpsQ.no (Want.bool rfl rfl rfl rfl (by rw [(eF c5)]; rfl)) rfl ?_
   refine OpsQ.no (Want.bool rfl rfl rfl rfl (by rw [(eF c5)]; rfl)) rfl ?_
   refine OpsQ.no (Want.bool rfl rfl rfl rfl (by rw [(eF c5)]; rfl)) rfl ?_
   refine OpsQ.no (Want.bool rfl rfl rfl rfl (by rw [(eF c5)]; rfl)) rfl ?_
   refine OpsQ.no (Want.bool rfl rfl rfl rfl (by rw [(eF c5)]; rfl)) rfl ?_
   refine OpsQ.yes (Want.plain rfl) rfl (OpR.pickF rfl (eF c5) rfl) ?_
   refine aB rfl rfl rfl ?_
   exact OpsQ.nil
 refine T.drawQ drawsX [.nod [dN a0.fAt, dN a0.fN], dN a0.fAt, dT (decide (a0.fAt ≥ 0)), dT (decide (a0.fAt ≥ 0)), .nod [dN a0.fN], dN a0.fN, dT (decide (a0.fN ≥ 0)), dT (decide (a0.fN ≥ 0)), dT (decide (a0.fN ≥ 0)), .nod [dN a0.fAt, dN a0.fN], dN a0.fAt, dP b0, dP b0, dP b0, .val v1, dN (a1.length : Int), dT (decide (a0.fAt ≤ (a1.length : Int))), dT (decide (a0.fAt ≤ (a1.length : Int))), dT (decide (a0.fAt ≤ (a1.length : Int))), .nod [dN a0.fN], dN a0.fN, dP b0, dP b0, dP b0, .val v1, dN (a1.length : Int), .nod [dN a0.fAt, dN a0.fN], dN a0.fAt, dN (w64 ((a1.length : Int) - a0.fAt)), dT (decide (a0.fN ≤ (w64 ((a1.length : Int) - a0.fAt)))), dT (decide (a0.fN ≤ (w64 ((a1.length : Int) - a0.fAt)))), dT (decide (a0.fN ≤ (w64 ((a1.length : Int) - a0.fAt))))] [4] (by decide +kernel) rfl ?_ rfl ?_
 rotate_left
 · obtain rfl := osi ht1
   exact ⟨_, Gst.only [4] rfl, rfl⟩
 iterate 4 refine aB rfl rfl rfl ?_
 refine OpsQ.yes (Want.bool rfl rfl rfl rfl (by rw [(eT c3)]; rfl)) rfl (OpR.pure rfl) ?_
 refine OpsQ.yes (Want.bool rfl rfl rfl rfl (by rw [(eT c3)]; rfl)) rfl (OpR.pure rfl) ?_
 refine OpsQ.yes (Want.bool rfl rfl rfl rfl (by rw [(eT c3)]; rfl)) rfl (OpR.pure rfl) ?_
 refine OpsQ.yes (Want.plain rfl) rfl (OpR.pickT rfl (eT c3) rfl) ?_
 refine aB rfl rfl rfl ?_
 refine OpsQ.yes (Want.bool rfl rfl rfl rfl (by rw [(eT c4)]; rfl)) rfl (OpR.pure rfl) ?_
 refine OpsQ.yes (Want.bool rfl rfl rfl rfl (by rw [(eT c4)]; rfl)) rfl (OpR.pure rfl) ?_
 refine OpsQ.yes (Want.bool rfl rfl rfl rfl (by rw [(eT c4)]; rfl)) rfl (OpR.pure rfl) ?_
 refine OpsQ.yes (Want.bool rfl rfl rfl rfl (by rw [(eT c4)]; rfl)) rfl (OpR.pure rfl) ?_
 refine OpsQ.yes (Want.bool rfl rfl rfl rfl (by rw [(eT c4)]; rfl)) rfl (OpR.pure rfl) ?_
 refine OpsQ.yes (Want.bool rfl rfl rfl rfl (by rw [(eT c4)]; rfl)) rfl (OpR.loadPtr 0 rfl rfl rfl rfl) ?_
 refine OpsQ.yes (Want.bool rfl rfl rfl rfl (by rw [(eT c4)]; rfl)) rfl (OpR.rowLenM byteD 1 rfl rfl rfl rfl) ?_
 refine OpsQ.yes (Want.bool rfl rfl rfl rfl (by rw [(eT c4)]; rfl)) rfl (OpR.pure rfl) ?_
 refine OpsQ.yes (Want.plain rfl) rfl (OpR.pickT rfl (eT c4) rfl) ?_
 refine aB rfl rfl rfl ?_
 refine OpsQ.yes (Want.bool rfl rfl rfl rfl (by rw [(eT c5)]; rfl)) rfl (OpR.pure rfl) ?_
 refine OpsQ.yes (Want.bool rfl rfl rfl rfl (by rw [(eT c5)]; rfl)) rfl (OpR.pure rfl) ?_
 refine OpsQ.yes (Want.bool rfl rfl rfl rfl (by rw [(eT c5)]; rfl)) rfl (OpR.pure rfl) ?_
 refine OpsQ.yes (Want.bool rfl rfl rfl rfl (by rw [(eT c5)]; rfl)) rfl (OpR.pure rfl) ?_
 refine OpsQ.yes (Want.bool rfl rfl rfl rfl (by rw [(eT c5)]; rfl)) rfl (OpR.pure rfl) ?_
 refine OpsQ.yes (Want.bool rfl rfl rfl rfl (by rw [(eT c5)]; rfl)) rfl (OpR.loadPtr 0 rfl rfl rfl rfl) ?_
 refine OpsQ.yes (Want.bool rfl rfl rfl rfl (by rw [(eT c5)]; rfl)) rfl (OpR.rowLenM byteD 1 rfl rfl rfl rfl) ?_
 refine OpsQ.yes (Want.bool rfl rfl rfl rfl (by rw [(eT c5)]; rfl)) rfl (OpR.pure rfl) ?_
 refine OpsQ.yes (Want.bool rfl rfl rfl rfl (by rw [(eT c5)]; rfl)) rfl (OpR.pure rfl) ?_
 refine OpsQ.yes (Want.bool rfl rfl rfl rfl (by rw [(eT c5)]; rfl)) rfl (OpR.pure rfl) ?_
 refine OpsQ.yes (Want.bool rfl rfl rfl rfl (by rw [(eT c5)]; rfl)) rfl (OpR.pure rfl) ?_
 refine OpsQ.yes (Want.plain rfl) rfl (OpR.pickT rfl (eT c5) rfl) ?_
 refine aB rfl rfl rfl ?_
 exact OpsQ.nil
noncomputable def arena_Arena_part (a0 : arena_Span) (a1 : List UInt8) : Option ((Int × Int) ⊕ (List UInt8)) :=
  bnd (arena_Arena_Right a0 a1) fun x1 =>
  if x1 = true then
    bnd (cut a1 a0.fAt (w64 (a0.fAt + a0.fN))) fun x4 =>
    some (Sum.inl (a0.fAt, w64 (a0.fAt + a0.fN)))
  else
    some (Sum.inr [])
theorem arena_Arena_part_c {a0 : arena_Span} {a1 : List UInt8} {b0 : Nat} {v1 : Value} {res : (Int × Int) ⊕ (List UInt8)} (h0 : arena_Arena_part a0 a1 = some res) : CallF X 149 [dP b0, .agg [dN a0.fAt, dN a0.fN]] [.var b0 [.val v1] 142, .row v1 (lB a1) 1 5] (fun x => (match res with | .inl res => .val (vw v1 (res.1 : Int).toNat (res.2 : Int).toNat 1) | .inr res => .sl 1 (lB res))) (fun x => (match res with | .inl res => [.var b0 [.val v1] 142, .row v1 (lB a1) 1 5] | .inr res => [.var b0 [.val v1] 142, .row v1 (lB a1) 1 5])) := by
 unfold arena_Arena_part at h0
 refine CallF.mkG (X := X) rfl Try.func149 rfl rfl Try.ntmps149 rfl rfl ?_
 refine aS ?_
 refine TL.op1 (OpR.boxImm rfl rfl) rfl ?_
 refine aA rfl rfl ?_
 refine aN rfl ?_
 refine T.seq ?_
 refine aS ?_
 iterate 2 refine aA rfl rfl ?_
 obtain ⟨x1, hx1, h0⟩ := bS h0
 refine TL.op1 (OpR.call [0, 1] fn187 (arena_Arena_Right_c hx1) rfl rfl rfl (fun _ => rfl)) rfl ?_
 refine aA rfl rfl ?_
 refine aN rfl ?_
 rcases ite_some h0 with ⟨c2, h0⟩ | ⟨c2, h0⟩
 rotate_left
 · refine T.condT rfl (not_f (eq_false_of_ne_true c2)) ?_
   refine aS ?_
   refine aA rfl rfl ?_
   refine aN rfl ?_
   refine T.ret ?_
   obtain rfl := osi h0
   exact PostG.retP (ks := [0, 1]) (Gst.trans (Gst.only [4] rfl) (Gst.denil (ReS.cons (Re.base .nil) ReS.nil) (ReO.var (ReL.cons Re.refl ReL.nil) (ReO.same ReO.nil)))) undef (cT rfl ResL.nil) rfl rfl rfl rfl
 refine T.condF rfl (not_t (c2)) ?_
 refine aK rfl ?_
 refine T.seq ?_
 obtain ⟨x4, hx4, h0⟩ := bS h0
 refine T.drawQ drawsX [dP b0, dP b0, dP b0, .val v1, .nod [dN a0.fAt, dN a0.fN], dN a0.fAt, .nod [dN a0.fAt, dN a0.fN], dN a0.fAt, .nod [dN a0.fN], dN a0.fN, dN (w64 (a0.fAt + a0.fN)), .val (vw v1 (a0.fAt : Int).toNat (w64 (a0.fAt + a0.fN) : Int).toNat 1), .val (vw v1 (a0.fAt : Int).toNat (w64 (a0.fAt + a0.fN) : Int).toNat 1)] [4] (by decide +kernel) rfl ?_ rfl ?_
 rotate_left
 · show T X _ _ _
   refine T.ret ?_
   obtain rfl := osi h0
   exact rO [0, 1] [4] rfl undef (cT rfl ResL.nil) rfl rfl rfl rfl
 iterate 3 refine aB rfl rfl rfl ?_
 refine OpsQ.yes (Want.plain rfl) rfl (OpR.loadPtr 0 rfl rfl rfl rfl) ?_
 iterate 7 refine aB rfl rfl rfl ?_
 refine OpsQ.yes (Want.plain rfl) rfl (OpR.sliceRowM byteD 1 hx4 rfl rfl rfl rfl rfl rfl (BdM.some rfl) (BdM.some rfl)) ?_
 refine aB rfl rfl rfl ?_
 exact OpsQ.nil
theorem arena_Arena_part_cx1 {a0 : arena_Span} {a1 : List UInt8} {b0 : Nat} {v1 : Value} {res : Int × Int} (h0 : arena_Arena_part a0 a1 = some (Sum.inl res)) : CallF X 149 [dP b0, .agg [dN a0.fAt, dN a0.fN]] [.var b0 [.val v1] 142, .row v1 (lB a1) 1 5] (fun x => .val (vw v1 (res.1 : Int).toNat (res.2 : Int).toNat 1)) (fun x => [.var b0 [.val v1] 142, .row v1 (lB a1) 1 5]) := arena_Arena_part_c h0
theorem arena_Arena_part_cx2 {a0 : arena_Span} {a1 : List UInt8} {b0 : Nat} {v1 : Value} {res : (List UInt8)} (h0 : arena_Arena_part a0 a1 = some (Sum.inr res)) : CallF X 149 [dP b0, .agg [dN a0.fAt, dN a0.fN]] [.var b0 [.val v1] 142, .row v1 (lB a1) 1 5] (fun x => .sl 1 (lB res)) (fun x => [.var b0 [.val v1] 142, .row v1 (lB a1) 1 5]) := arena_Arena_part_c h0
noncomputable def arena_Arena_Bytes (a0 : arena_Span) (a1 : List UInt8) : Option (List UInt8) :=
  bnd (arena_Arena_part a0 a1) fun x1 =>
  match x1 with
  | .inl x1 =>
      bnd (cut a1 x1.1 x1.2) fun x2 =>
      bnd (mkz 1 (x2.length : Int) (0 : UInt8)) fun x3 =>
      some (over x3 x2)
  | .inr x1 =>
      bnd (mkz 1 (x1.length : Int) (0 : UInt8)) fun x5 =>
      some (over x5 x1)
theorem arena_Arena_Bytes_c {a0 : arena_Span} {a1 : List UInt8} {b0 : Nat} {v1 : Value} {res : (List UInt8)} (h0 : arena_Arena_Bytes a0 a1 = some res) : CallF X 91 [dP b0, .agg [dN a0.fAt, dN a0.fN]] [.var b0 [.val v1] 142, .row v1 (lB a1) 1 5] (fun x => .sl 1 (lB res)) (fun x => [.var b0 [.val v1] 142, .row v1 (lB a1) 1 5]) := by
 unfold arena_Arena_Bytes at h0
 refine CallF.mkG (X := X) rfl Try.func91 rfl rfl Try.ntmps91 rfl rfl ?_
 refine aS ?_
 refine TL.op1 (OpR.boxImm rfl rfl) rfl ?_
 refine aA rfl rfl ?_
 refine aN rfl ?_
 refine aS ?_
 iterate 2 refine aA rfl rfl ?_
 obtain ⟨x1, hx1, h0⟩ := bS h0
 rcases x1 with x1 | x1
 rotate_left
 · dsimp only at h0
   refine TL.op1 (OpR.call [0, 1] fn149 (arena_Arena_part_cx2 hx1) rfl rfl rfl (fun _ => rfl)) rfl ?_
   refine aA rfl rfl ?_
   refine aN rfl ?_
   refine aS ?_
   refine aA rfl rfl ?_
   refine TL.op1 (OpR.cast (OpR.pure rfl) (intE (lenM _ _))) rfl ?_
   obtain ⟨x5, hx5, h0⟩ := bS h0
   refine TL.op (OpR.makeM byteD hx5 rfl rfl rfl rfl rfl rfl rfl rfl rfl rfl rfl (fun _ => rfl)) rfl (fun v6 => ?_)
   refine aA rfl rfl ?_
   refine aN rfl ?_
   refine aS ?_
   iterate 2 refine aA rfl rfl ?_
   refine TL.op1 (OpR.copyM byteD 2 rfl rfl rfl rfl rfl rfl rfl rfl) rfl ?_
   refine aN rfl ?_
   refine aS ?_
   iterate 2 refine aA rfl rfl ?_
   refine aN rfl ?_
   refine T.ret ?_
   obtain rfl := osi h0
   exact PostG.retP (ks := [0, 1]) (Gst.trans (Gst.only [4] rfl) (Gst.trans (Gst.freezeRow 2 rfl rfl (ReS.cons (Re.base .all) ReS.nil) (ReO.same (ReO.same (ReO.same ReO.nil)))) (Gst.pick [0, 1] rfl rfl))) undef (cT rfl ResL.nil) rfl rfl rfl rfl
 dsimp only at h0
 refine TL.op1 (OpR.call [0, 1] fn149 (arena_Arena_part_cx1 hx1) rfl rfl rfl (fun _ => rfl)) rfl ?_
 refine aA rfl rfl ?_
 refine aN rfl ?_
 refine aS ?_
 refine aA rfl rfl ?_
 obtain ⟨x2, hx2, h0⟩ := bS h0
 refine TL.op1 (OpR.lenF byteD (Src.viewM byteD 1 hx2 rfl rfl) rfl rfl) rfl ?_
 obtain ⟨x3, hx3, h0⟩ := bS h0
 refine TL.op (OpR.makeM byteD hx3 rfl rfl rfl rfl rfl rfl rfl rfl rfl rfl rfl (fun _ => rfl)) rfl (fun v4 => ?_)
 refine aA rfl rfl ?_
 refine aN rfl ?_
 refine aS ?_
 iterate 2 refine aA rfl rfl ?_
 refine TL.op1 (OpR.copyF byteD 2 (Src.viewM byteD 1 hx2 rfl rfl) rfl rfl rfl rfl rfl rfl rfl) rfl ?_
 refine aN rfl ?_
 refine aS ?_
 iterate 2 refine aA rfl rfl ?_
 refine aN rfl ?_
 refine T.ret ?_
 obtain rfl := osi h0
 exact PostG.retP (ks := [0, 1]) (Gst.trans (Gst.only [4] rfl) (Gst.trans (Gst.freezeRow 2 rfl rfl (ReS.cons (Re.base .all) ReS.nil) (ReO.same (ReO.same (ReO.same ReO.nil)))) (Gst.pick [0, 1] rfl rfl))) undef (cT rfl ResL.nil) rfl rfl rfl rfl
noncomputable def piece_Text_Flat.l1 (a0 : piece_Text) (a1 : List UInt8) (s4 : Int × (List UInt8)) : Option (Lp (Int × (List UInt8)) (List UInt8)) :=
  if s4.1 < (a0.fL.length : Int) then
    bnd (idx a0.fL s4.1) fun x13 =>
    bnd (arena_Arena_Bytes x13 a1) fun x15 =>
    bnd (app 1 s4.2 x15) fun x16 =>
    some (Lp.next (w64 (s4.1 + 1), x16))
  else
    some (Lp.done s4.2)
noncomputable def piece_Text_Flat (a0 : piece_Text) (a1 : List UInt8) : Option (List UInt8) :=
  bnd (loop (piece_Text_Flat.l1 a0 a1) (0, []) : Option (List UInt8)) fun t1 =>
  some t1
theorem piece_Text_Flat_c {a0 : piece_Text} {a1 : List UInt8} {b0 : Nat} {v1 : Value} {res : (List UInt8)} (h0 : piece_Text_Flat a0 a1 = some res) : CallF X 46 [.agg [.sl 2 (List.map e_arena_Span a0.fL), dN a0.fN], dP b0] [.var b0 [.val v1] 142, .row v1 (lB a1) 1 5] (fun x => .sl 1 (lB res)) (fun x => [.var b0 [.val v1] 142, .row v1 (lB a1) 1 5]) := by
 unfold piece_Text_Flat at h0
 refine CallF.mkG (X := X) rfl Try.func46 rfl rfl Try.ntmps46 rfl rfl ?_
 refine aS ?_
 refine TL.op1 (OpR.boxImm rfl rfl) rfl ?_
 refine aA rfl rfl ?_
 refine aN rfl ?_
 refine aS ?_
 refine aA rfl rfl ?_
 refine aN rfl ?_
 refine T.seq ?_
 refine aS ?_
 iterate 2 refine aA rfl rfl ?_
 refine TL.op1 (OpR.cast (OpR.pure rfl) (intE (lenM _ _))) rfl ?_
 refine aA rfl rfl ?_
 refine aN rfl ?_
 obtain ⟨t1, ht1, h0⟩ := bS h0
 refine T.cutC (fun S' => ∃ y2 : Value, S' = ⟨[(5, .val y2), (4, .val (.slice none 0 0))], [.var b0 [.val v1] 142, .row v1 (lB a1) 1 5, .row y2 (lB t1) 1 5], 22⟩) (fun _ h => h) ?_ ?_
 rotate_left
 · rintro _ ⟨y2, rfl⟩
   show T X _ _ _
   refine aS ?_
   iterate 2 refine aA rfl rfl ?_
   refine aN rfl ?_
   refine T.ret ?_
   obtain rfl := osi h0
   exact PostG.retP (ks := [0, 1]) (Gst.trans (Gst.only [4] rfl) (Gst.trans (Gst.freezeRow 2 rfl rfl (ReS.cons (Re.base .all) ReS.nil) (ReO.same (ReO.same (ReO.same ReO.nil)))) (Gst.pick [0, 1] rfl rfl))) undef (cT rfl ResL.nil) rfl rfl rfl rfl
 refine T.block ?_
 obtain ⟨n5, n10⟩ := loop_some ht1
 refine T.loop (fun n S' => ∃ S'', Gst S' S'' ∧ ∃ y3 : Value, ∃ s4 : Int × (List UInt8), S'' = ⟨[(11, (dN s4.1)), (10, (dN (a0.fL.length : Int))), (9, .sl 2 (List.map e_arena_Span a0.fL)), (5, .val y3), (4, .val (.slice none 0 0)), (1, (dP b0))], [.var b0 [.val v1] 142, .row v1 (lB a1) 1 5, .row y3 (lB s4.2) 1 5], 22⟩ ∧ iter (piece_Text_Flat.l1 a0 a1) n s4 = some t1) n5 ?_ ?_
 · exact ⟨_, Gst.trans (Gst.only [1, 4, 5, 9, 10, 11] rfl) (Gst.nilRow (ow := [.var b0 [.val v1] 142, .row v1 (lB a1) 1 5]) 1 5 rfl), (.slice none 0 0), (0, []), rfl, n10⟩
 rintro n5 _ ⟨_, g, y3, s4, rfl, i9⟩
 refine T.ghost g ?_
 obtain ⟨m6, q7, rfl, q8, i9⟩ := iter_succ i9
 unfold piece_Text_Flat.l1 at q8
 refine aS ?_
 refine aA rfl rfl ?_
 refine aN rfl ?_
 refine T.seq ?_
 rcases ite_some q8 with ⟨c12, q8⟩ | ⟨c12, q8⟩
 rotate_left
 · refine T.condF rfl (eF c12) ?_
   refine T.exit ?_
   obtain rfl := osi q8
   obtain rfl : _ = _ := i9
   exact ⟨_, Gst.only [4, 5] rfl, y3, rfl⟩
 refine T.condT rfl (eT c12) ?_
 refine aK rfl ?_
 refine T.seq ?_
 refine T.block ?_
 refine aS ?_
 obtain ⟨x13, hx13, q8⟩ := bS q8
 refine TL.op1 (OpR.indexM e_arena_Span hx13 rfl rfl rfl rfl rfl) rfl ?_
 refine aA rfl rfl ?_
 refine TL.op (OpR.alloc rfl rfl (fun _ => rfl)) rfl (fun p14 => ?_)
 refine TL.op0 (OpR.store 3 rfl rfl rfl rfl rfl rfl rfl rfl) ?_
 refine aN rfl ?_
 refine T.region ?_
 iterate 2 refine aA rfl rfl ?_
 refine TL.op1 (OpR.loadPtr 3 rfl rfl rfl rfl) rfl ?_
 obtain ⟨x15, hx15, q8⟩ := bS q8
 refine TL.op1 (OpR.call [0, 1] fn91 (arena_Arena_Bytes_c hx15) rfl rfl rfl (fun _ => rfl)) rfl ?_
 obtain ⟨x16, hx16, q8⟩ := bS q8
 refine TL.op (OpR.appendM (m := x15) byteD 2 hx16 rfl rfl rfl rfl rfl rfl rfl rfl rfl (fun _ => rfl)) rfl (fun v17 => ?_)
 refine aA rfl rfl ?_
 refine aN rfl ?_
 refine T.region ?_
 iterate 2 refine aA rfl rfl ?_
 refine TL.nil ?_
 obtain rfl := osi q8
 exact ⟨m6, Nat.lt_succ_self _, _, gP [1, 4, 5, 9, 10, 11] [0, 1, 2] rfl rfl rfl, v17, (w64 (s4.1 + 1), x16), rfl, i9⟩
noncomputable def cell_Cell_Bytes (a0 : cell_Cell) (a1 : List UInt8) : Option (List UInt8) :=
  bnd (piece_Text_Flat a0.fText a1) fun x1 =>
  some x1
theorem cell_Cell_Bytes_c {a0 : cell_Cell} {a1 : List UInt8} {b0 : Nat} {v1 : Value} {res : (List UInt8)} (h0 : cell_Cell_Bytes a0 a1 = some res) : CallF X 102 [.agg [.sl 2 (List.map e_arena_Span a0.fText.fL), dN a0.fText.fN, dN a0.fRaw.fAt, dN a0.fRaw.fN, dT a0.fKept], dP b0] [.var b0 [.val v1] 142, .row v1 (lB a1) 1 5] (fun x => .sl 1 (lB res)) (fun x => [.var b0 [.val v1] 142, .row v1 (lB a1) 1 5]) := by
 unfold cell_Cell_Bytes at h0
 refine CallF.mkG (X := X) rfl Try.func102 rfl rfl Try.ntmps102 rfl rfl ?_
 refine aS ?_
 refine TL.op1 (OpR.boxImm rfl rfl) rfl ?_
 refine aA rfl rfl ?_
 refine aN rfl ?_
 refine aS ?_
 iterate 3 refine aA rfl rfl ?_
 obtain ⟨x1, hx1, h0⟩ := bS h0
 refine TL.op1 (OpR.call [0, 1] fn46 (piece_Text_Flat_c hx1) rfl rfl rfl (fun _ => rfl)) rfl ?_
 refine aA rfl rfl ?_
 refine aN rfl ?_
 refine T.ret ?_
 obtain rfl := osi h0
 exact rO [0, 1] [4] rfl undef (cT rfl ResL.nil) rfl rfl rfl rfl
noncomputable def find_places (a0 : List UInt8) (a1 : List UInt8) : Option ((List UInt8) × (List UInt8)) :=
  some (a1, a0)
theorem find_places_c {a0 : List UInt8} {a1 : List UInt8} {res : (List UInt8) × (List UInt8)} (h0 : find_places a0 a1 = some res) : CallF X 64 [.sl 1 (lB a0), .sl 1 (lB a1)] [] (fun x => .fn (.func 117) [] [dP (blk (vn x 0)), dP (blk (vn x 1))]) (fun x => [.var (blk (vn x 0)) [.sl 1 (lB res.1)] 25, .var (blk (vn x 1)) [.sl 1 (lB res.2)] 25]) := by
 unfold find_places at h0
 refine CallF.mkG (X := X) rfl Try.func64 rfl rfl Try.ntmps64 rfl rfl ?_
 refine aS ?_
 refine TL.op (OpR.boxVar rfl rfl (fun _ => rfl)) rfl (fun p1 => ?_)
 refine TL.op (OpR.boxVar rfl rfl (fun _ => rfl)) rfl (fun p2 => ?_)
 refine aA rfl rfl ?_
 refine aN rfl ?_
 refine aS ?_
 iterate 2 refine aA rfl rfl ?_
 refine aN rfl ?_
 refine T.ret ?_
 obtain rfl := osi h0
 exact rP [0, 1] [4] [1, 0] rfl rfl rfl (.tuple #[p2, p1]) (cT rfl ResL.nil) rfl rfl rfl rfl
noncomputable def find_table.l1 (a0 : List UInt8) (s4 : Int × Int × (List Int)) (s14 : Int) : Option (Lp Int Int) :=
  bnd (if s14 > 0 then
    bnd (idx a0 s4.2.1) fun x25 =>
    bnd (idx a0 s14) fun x26 =>
    some (!((x25.toNat : Int) == (x26.toNat : Int)))
  else
    some false : Option Bool) fun t22 =>
  if t22 = true then
    bnd (idx s4.2.2 s14) fun x28 =>
    some (Lp.next x28)
  else
    some (Lp.done s14)
noncomputable def find_table.l2 (a0 : List UInt8) (s4 : Int × Int × (List Int)) : Option (Lp (Int × Int × (List Int)) (List Int)) :=
  if s4.2.1 < (a0.length : Int) then
    bnd (loop (find_table.l1 a0 s4) s4.1 : Option Int) fun t13 =>
    bnd (idx a0 s4.2.1) fun x30 =>
    bnd (idx a0 t13) fun x31 =>
    bnd (if (x30.toNat : Int) = (x31.toNat : Int) then
      some (w64 (t13 + 1))
    else
      some t13 : Option Int) fun t32 =>
    bnd (idx s4.2.2 (w64 (s4.2.1 + 1))) fun x34 =>
    some (Lp.next (t32, w64 (s4.2.1 + 1), (s4.2.2.set (w64 (s4.2.1 + 1)).toNat t32)))
  else
    some (Lp.done s4.2.2)
noncomputable def find_table (a0 : List UInt8) : Option (List Int) :=
  bnd (mkz 8 (w64 ((a0.length : Int) + 1)) (0 : Int)) fun x1 =>
  bnd (loop (find_table.l2 a0) (0, 1, x1) : Option (List Int)) fun t3 =>
  some t3
theorem find_table_c {a0 : List UInt8} {res : (List Int)} (h0 : find_table a0 = some res) : CallF X 118 [.sl 1 (lB a0)] [] (fun x => .sl 1 (List.map (eI .i64) res)) (fun x => []) := by
 unfold find_table at h0
 refine CallF.mkG (X := X) rfl Try.func118 rfl rfl Try.ntmps118 rfl rfl ?_
 refine aS ?_
 refine aA rfl rfl ?_
 refine aN rfl ?_
 refine aS ?_
 refine aA rfl rfl ?_
 refine TL.op1 (OpR.cast (OpR.pure rfl) (intE (lenM _ _))) rfl ?_
 refine aA rfl rfl ?_
 obtain ⟨x1, hx1, h0⟩ := bS h0
 refine TL.op (OpR.makeM (eI .i64) hx1 rfl rfl rfl rfl rfl rfl rfl rfl rfl rfl rfl (fun _ => rfl)) rfl (fun v2 => ?_)
 refine aA rfl rfl ?_
 refine aN rfl ?_
 refine aS ?_
 refine aA rfl rfl ?_
 refine aN rfl ?_
 refine T.seq ?_
 refine aS ?_
 refine aA rfl rfl ?_
 refine aN rfl ?_
 obtain ⟨t3, ht3, h0⟩ := bS h0
 refine T.cutC (fun S' => S' = ⟨[(3, .val v2), (2, .val (.slice none 0 0))], [.row v2 (List.map (eI .i64) t3) 1 3], 50⟩) (fun _ h => h) ?_ ?_
 rotate_left
 · rintro _ rfl
   show T X _ _ _
   refine aS ?_
   iterate 2 refine aA rfl rfl ?_
   refine aN rfl ?_
   refine T.ret ?_
   obtain rfl := osi h0
   exact PostG.retP (ks := []) (Gst.trans (Gst.only [2] rfl) (Gst.trans (Gst.freezeRow 0 rfl rfl (ReS.cons (Re.base .all) ReS.nil) (ReO.same ReO.nil)) (Gst.pick [] rfl rfl))) undef (cT rfl ResL.nil) rfl rfl rfl rfl
 refine T.block ?_
 obtain ⟨n5, n10⟩ := loop_some ht3
 refine T.loop (fun n S' => ∃ S'', Gst S' S'' ∧ ∃ s4 : Int × Int × (List Int), S'' = ⟨[(5, (dN s4.2.1)), (4, (dN s4.1)), (3, .val v2), (2, .val (.slice none 0 0)), (0, .sl 1 (lB a0))], [.row v2 (List.map (eI .i64) s4.2.2) 1 3], 50⟩ ∧ iter (find_table.l2 a0) n s4 = some t3) n5 ?_ ?_
 · exact ⟨_, Gst.only [0, 2, 3, 4, 5] rfl, (0, 1, x1), rfl, n10⟩
 rintro n5 _ ⟨_, g, s4, rfl, i9⟩
 refine T.ghost g ?_
 obtain ⟨m6, q7, rfl, q8, i9⟩ := iter_succ i9
 unfold find_table.l2 at q8
 refine T.seq ?_
 refine aS ?_
 iterate 2 refine aA rfl rfl ?_
 refine TL.op1 (OpR.cast (OpR.pure rfl) (intE (lenM _ _))) rfl ?_
 refine aA rfl rfl ?_
 refine aN rfl ?_
 rcases ite_some q8 with ⟨c12, q8⟩ | ⟨c12, q8⟩
 rotate_left
 · refine T.condF rfl (eF c12) ?_
   refine T.exit ?_
   obtain rfl := osi q8
   obtain rfl : _ = _ := i9
   exact ⟨_, Gst.only [2, 3] rfl, rfl⟩
 refine T.condT rfl (eT c12) ?_
 refine aK rfl ?_
 refine T.seq ?_
 refine T.block ?_
 refine T.seq ?_
 obtain ⟨t13, ht13, q8⟩ := bS q8
 refine T.cutC (fun S' => S' = ⟨[(5, (dN s4.2.1)), (4, (dN t13)), (3, .val v2), (2, .val (.slice none 0 0)), (0, .sl 1 (lB a0))], [.row v2 (List.map (eI .i64) s4.2.2) 1 3], 50⟩) (fun _ h => h) ?_ ?_
 rotate_left
 · rintro _ rfl
   show T X _ _ _
   refine T.seq ?_
   refine T.seq ?_
   obtain ⟨x30, hx30, q8⟩ := bS q8
   obtain ⟨x31, hx31, q8⟩ := bS q8
   refine T.drawQ drawsX [.sl 1 (lB a0), dN s4.2.1, .nod [.val (.int .u8 (x30.toNat : Int))], .val (.int .u8 (x30.toNat : Int)), .sl 1 (lB a0), dN t13, .nod [.val (.int .u8 (x31.toNat : Int))], .val (.int .u8 (x31.toNat : Int)), dT ((x30.toNat : Int) == (x31.toNat : Int))] [0, 2, 3, 4, 5, 41] (by decide +kernel) rfl ?_ rfl ?_
   · iterate 2 refine aB rfl rfl rfl ?_
     refine OpsQ.yes (Want.plain rfl) rfl (OpR.indexM byteD hx30 rfl rfl rfl rfl rfl) ?_
     iterate 3 refine aB rfl rfl rfl ?_
     refine OpsQ.yes (Want.plain rfl) rfl (OpR.indexM byteD hx31 rfl rfl rfl rfl rfl) ?_
     iterate 2 refine aB rfl rfl rfl ?_
     exact OpsQ.nil
   show T X _ _ _
   obtain ⟨t32, ht32, q8⟩ := bS q8
   refine T.cutC (fun S' => S' = ⟨[(5, (dN s4.2.1)), (4, (dN t32)), (3, .val v2), (2, .val (.slice none 0 0)), (0, .sl 1 (lB a0))], [.row v2 (List.map (eI .i64) s4.2.2) 1 3], 50⟩) (fun _ h => h) ?_ ?_
   · rcases ite_some ht32 with ⟨c33, ht32⟩ | ⟨c33, ht32⟩
     rotate_left
     · refine T.condF rfl (beq_eq_false_iff_ne.2 c33) ?_
       refine T.skip ?_
       obtain rfl := osi ht32
       exact ⟨_, Gst.only [0, 2, 3, 4, 5] rfl, rfl⟩
     refine T.condT rfl (beq_iff_eq.2 c33) ?_
     refine T.region ?_
     iterate 3 refine aA rfl rfl ?_
     refine TL.nil ?_
     obtain rfl := osi ht32
     exact ⟨_, Gst.only [0, 2, 3, 4, 5] rfl, rfl⟩
   rintro _ rfl
   show T X _ _ _
   refine T.region ?_
   iterate 4 refine aA rfl rfl ?_
   obtain ⟨x34, hx34, q8⟩ := bS q8
   refine TL.op1 (OpR.rowIndexM (eI .i64) 0 hx34 rfl rfl rfl rfl rfl rfl rfl) rfl ?_
   refine TL.op0 (OpR.rowStore0M (j := w64 (s4.2.1 + 1)) (eI .i64) t32 0 hx34 rfl rfl rfl rfl rfl rfl rfl rfl rfl) ?_
   refine aN rfl ?_
   refine T.region ?_
   iterate 3 refine aA rfl rfl ?_
   refine TL.nil ?_
   obtain rfl := osi q8
   exact ⟨m6, Nat.lt_succ_self _, _, Gst.only [0, 2, 3, 4, 5] rfl, (t32, w64 (s4.2.1 + 1), (s4.2.2.set (w64 (s4.2.1 + 1)).toNat t32)), rfl, i9⟩
 refine T.block ?_
 obtain ⟨n15, n20⟩ := loop_some ht13
 refine T.loop (fun n S' => ∃ S'', Gst S' S'' ∧ ∃ s14 : Int, S'' = ⟨[(5, (dN s4.2.1)), (4, (dN s14)), (3, .val v2), (2, .val (.slice none 0 0)), (0, .sl 1 (lB a0))], [.row v2 (List.map (eI .i64) s4.2.2) 1 3], 50⟩ ∧ iter (find_table.l1 a0 s4) n s14 = some t13) n15 ?_ ?_
 · exact ⟨_, Gst.only [0, 2, 3, 4, 5] rfl, s4.1, rfl, n20⟩
 rintro n15 _ ⟨_, g, s14, rfl, i19⟩
 refine T.ghost g ?_
 obtain ⟨m16, q17, rfl, q18, i19⟩ := iter_succ i19
 unfold find_table.l1 at q18
 refine T.seq ?_
 refine T.seq ?_
 obtain ⟨t22, ht22, q18⟩ := bS q18
 refine T.cutC (fun S' => S' = ⟨[(28, (dT t22)), (5, (dN s4.2.1)), (4, (dN s14)), (3, .val v2), (2, .val (.slice none 0 0)), (0, .sl 1 (lB a0))], [.row v2 (List.map (eI .i64) s4.2.2) 1 3], 50⟩) (fun _ h => h) ?_ ?_
 rotate_left
 · rintro _ rfl
   show T X _ _ _
   rcases ite_some q18 with ⟨c27, q18⟩ | ⟨c27, q18⟩
   rotate_left
   · refine T.condF rfl (eq_false_of_ne_true c27) ?_
     refine T.exit ?_
     obtain rfl := osi q18
     obtain rfl : _ = _ := i19
     exact ⟨_, Gst.only [0, 2, 3, 4, 5] rfl, rfl⟩
   refine T.condT rfl (c27) ?_
   refine aK rfl ?_
   refine T.block ?_
   refine T.region ?_
   iterate 2 refine aA rfl rfl ?_
   obtain ⟨x28, hx28, q18⟩ := bS q18
   refine TL.op1 (OpR.rowIndexM (eI .i64) 0 hx28 rfl rfl rfl rfl rfl rfl rfl) rfl ?_
   refine TL.op1 (OpR.rowLoad0M (j := s14) (eI .i64) 0 hx28 rfl rfl rfl rfl) rfl ?_
   refine aA rfl rfl ?_
   refine TL.nil ?_
   obtain rfl := osi q18
   exact ⟨m16, Nat.lt_succ_self _, _, Gst.only [0, 2, 3, 4, 5] rfl, x28, rfl, i19⟩
 rcases ite_some ht22 with ⟨c24, ht22⟩ | ⟨c24, ht22⟩
 rotate_left
 · refine T.drawQ drawsX [dN s14, dT (decide (s14 > 0)), dT (decide (s14 > 0)), .tup [], .tup [], .tup [], .tup [], .tup [], .tup [], .tup [], .tup [], .tup [], dT false] [0, 2, 3, 4, 5, 28] (by decide +kernel) rfl ?_ rfl ?_
   rotate_left
   · obtain rfl := osi ht22
     exact ⟨_, Gst.only [0, 2, 3, 4, 5, 28] rfl, rfl⟩
   iterate 3 refine aB rfl rfl rfl ?_
   refine OpsQ.no (Want.bool rfl rfl rfl rfl (by rw [(eF c24)]; rfl)) rfl ?_
   refine OpsQ.no (Want.bool rfl rfl rfl rfl (by rw [(eF c24)]; rfl)) rfl ?_
   refine OpsQ.no (Want.bool rfl rfl rfl rfl (by rw [(eF c24)]; rfl)) rfl ?_
   refine OpsQ.no (Want.bool rfl rfl rfl rfl (by rw [(eF c24)]; rfl)) rfl ?_
   refine OpsQ.no (Want.bool rfl rfl rfl rfl (by rw [(eF c24)]; rfl)) rfl ?_
   refine OpsQ.no (Want.bool rfl rfl rfl rfl (by rw [(eF c24)]; rfl)) rfl ?_
   refine OpsQ.no (Want.bool rfl rfl rfl rfl (by rw [(eF c24)]; rfl)) rfl ?_
   refine OpsQ.no (Want.bool rfl rfl rfl rfl (by rw [(eF c24)]; rfl)) rfl ?_
   refine OpsQ.no (Want.bool rfl rfl rfl rfl (by rw [(eF c24)]; rfl)) rfl ?_
   refine OpsQ.yes (Want.plain rfl) rfl (OpR.pickF rfl (eF c24) rfl) ?_
   exact OpsQ.nil
 obtain ⟨x25, hx25, ht22⟩ := bS ht22
 obtain ⟨x26, hx26, ht22⟩ := bS ht22
 refine T.drawQ drawsX [dN s14, dT (decide (s14 > 0)), dT (decide (s14 > 0)), .sl 1 (lB a0), dN s4.2.1, .nod [.val (.int .u8 (x25.toNat : Int))], .val (.int .u8 (x25.toNat : Int)), .sl 1 (lB a0), dN s14, .nod [.val (.int .u8 (x26.toNat : Int))], .val (.int .u8 (x26.toNat : Int)), dT (!((x25.toNat : Int) == (x26.toNat : Int))), dT (!((x25.toNat : Int) == (x26.toNat : Int)))] [0, 2, 3, 4, 5, 28] (by decide +kernel) rfl ?_ rfl ?_
 rotate_left
 · obtain rfl := osi ht22
   exact ⟨_, Gst.only [0, 2, 3, 4, 5, 28] rfl, rfl⟩
 iterate 3 refine aB rfl rfl rfl ?_
 refine OpsQ.yes (Want.bool rfl rfl rfl rfl (by rw [(eT c24)]; rfl)) rfl (OpR.pure rfl) ?_
 refine OpsQ.yes (Want.bool rfl rfl rfl rfl (by rw [(eT c24)]; rfl)) rfl (OpR.pure rfl) ?_
 refine OpsQ.yes (Want.bool rfl rfl rfl rfl (by rw [(eT c24)]; rfl)) rfl (OpR.indexM byteD hx25 rfl rfl rfl rfl rfl) ?_
 refine OpsQ.yes (Want.bool rfl rfl rfl rfl (by rw [(eT c24)]; rfl)) rfl (OpR.pure rfl) ?_
 refine OpsQ.yes (Want.bool rfl rfl rfl rfl (by rw [(eT c24)]; rfl)) rfl (OpR.pure rfl) ?_
 refine OpsQ.yes (Want.bool rfl rfl rfl rfl (by rw [(eT c24)]; rfl)) rfl (OpR.pure rfl) ?_
 refine OpsQ.yes (Want.bool rfl rfl rfl rfl (by rw [(eT c24)]; rfl)) rfl (OpR.indexM byteD hx26 rfl rfl rfl rfl rfl) ?_
 refine OpsQ.yes (Want.bool rfl rfl rfl rfl (by rw [(eT c24)]; rfl)) rfl (OpR.pure rfl) ?_
 refine OpsQ.yes (Want.bool rfl rfl rfl rfl (by rw [(eT c24)]; rfl)) rfl (OpR.pure rfl) ?_
 refine OpsQ.yes (Want.plain rfl) rfl (OpR.pickT rfl (eT c24) rfl) ?_
 exact OpsQ.nil
noncomputable def find_First_r0 (a0 : Int) (a1 : Int) (a2 : Int) : Option (Int ⊕ Unit) :=
  if a0 ≥ a1 then
    some (Sum.inl a0)
  else
    some (Sum.inr ())
theorem find_First_r0_c {a0 : Int} {a1 : Int} {a2 : Int} {b0 : Nat} {b1 : Nat} {res : Int ⊕ Unit} (h0 : find_First_r0 a0 a1 a2 = some res) : RoundF X b0 [dN a0] [.lp b0 .ready none [11] rfA20_0 rfB20_0 [(6, (dP b1)), (5, .nod [dN a1])] 16, .var b1 [dN a2] 3] (fun x => (match res with | .inl res => (dT false) | .inr res => (dT true))) (fun x => (match res with | .inl res => [.lp b0 .done (some (.ret)) [11] rfA20_0 rfB20_0 [(6, (dP b1)), (5, .nod [dN a1])] 16, .var b1 [dN res] 3] | .inr res => [.lp b0 .ready none [11] rfA20_0 rfB20_0 [(6, (dP b1)), (5, .nod [dN a1])] 16, .var b1 [dN a2] 3])) := by
 unfold find_First_r0 at h0
 refine RoundF.mk (X := X) rfl rfl rfl ?_
 refine T.region ?_
 refine aA rfl rfl ?_
 refine TL.nil ?_
 refine RoundA.mk ?_
 refine T.block ?_
 refine aS ?_
 iterate 3 refine aA rfl rfl ?_
 refine TL.nil ?_
 show T (X.inR b0) _ _ _
 rcases ite_some h0 with ⟨c31, h0⟩ | ⟨c31, h0⟩
 rotate_left
 · refine T.condF rfl (eF c31) ?_
   refine T.skip ?_
   obtain rfl := osi h0
   exact RoundG.mk (ks := [0, 1]) (Gst.only [] rfl) undef rfl rfl rfl rfl rfl
 refine T.condT rfl (eT c31) ?_
 refine aS ?_
 refine aA rfl rfl ?_
 refine TL.op0 (OpR.store 1 rfl rfl rfl rfl rfl rfl rfl rfl) ?_
 refine TL.nil ?_
 show T (X.inR b0) _ _ _
 refine T.ret ?_
 obtain rfl := osi h0
 exact RoundG.mk (ks := [0, 1]) (Gst.only [] rfl) undef rfl rfl rfl rfl rfl
theorem find_First_r0_cx1 {a0 : Int} {a1 : Int} {a2 : Int} {b0 : Nat} {b1 : Nat} {res : Int} (h0 : find_First_r0 a0 a1 a2 = some (Sum.inl res)) : RoundF X b0 [dN a0] [.lp b0 .ready none [11] rfA20_0 rfB20_0 [(6, (dP b1)), (5, .nod [dN a1])] 16, .var b1 [dN a2] 3] (fun x => (dT false)) (fun x => [.lp b0 .done (some (.ret)) [11] rfA20_0 rfB20_0 [(6, (dP b1)), (5, .nod [dN a1])] 16, .var b1 [dN res] 3]) := find_First_r0_c h0
theorem find_First_r0_cx2 {a0 : Int} {a1 : Int} {a2 : Int} {b0 : Nat} {b1 : Nat} {res : Unit} (h0 : find_First_r0 a0 a1 a2 = some (Sum.inr res)) : RoundF X b0 [dN a0] [.lp b0 .ready none [11] rfA20_0 rfB20_0 [(6, (dP b1)), (5, .nod [dN a1])] 16, .var b1 [dN a2] 3] (fun x => (dT true)) (fun x => [.lp b0 .ready none [11] rfA20_0 rfB20_0 [(6, (dP b1)), (5, .nod [dN a1])] 16, .var b1 [dN a2] 3]) := find_First_r0_c h0
noncomputable def find_places_1.l1 (a1 : List UInt8) (x2 : (List Int)) (x16 : UInt8) (s18 : Int) : Option (Lp Int Int) :=
  bnd (if s18 > 0 then
    if s18 = (a1.length : Int) then
      some true
    else
      bnd (idx a1 s18) fun x29 =>
      some (!((x16.toNat : Int) == (x29.toNat : Int)))
  else
    some false : Option Bool) fun t26 =>
  if t26 = true then
    bnd (idx x2 s18) fun x31 =>
    some (Lp.next x31)
  else
    some (Lp.done s18)
noncomputable def find_places_1.l2 (a0 : Int) (a1 : List UInt8) (a2 : List UInt8) (a3 : Int) (x2 : (List Int)) (s5 : Int × Int) : Option (Lp (Int × Int) (Ex Unit (Unit ⊕ Int))) :=
  if s5.2 < (a2.length : Int) then
    bnd (bnd (idx a2 s5.2) fun x16 =>
    bnd (loop (find_places_1.l1 a1 x2 x16) s5.1 : Option Int) fun t17 =>
    bnd (idx a1 t17) fun x32 =>
    bnd (if (x16.toNat : Int) = (x32.toNat : Int) then
      some (w64 (t17 + 1))
    else
      some t17 : Option Int) fun t33 =>
    if t33 = (a1.length : Int) then
      bnd (find_First_r0 (w64 ((w64 (s5.2 + 1)) - t33)) a0 a3) fun x36 =>
      match x36 with
      | .inl x36 =>
          some (Ex.ret (Sum.inr x36))
      | .inr x36 =>
          some (Ex.brk t33)
    else
      some (Ex.brk t33) : Option (Ex Int (Unit ⊕ Int))) fun t14 => match t14 with
      | .brk u15 =>
        some (Lp.next (u15, w64 (s5.2 + 1)))
      | .ret u15 => some (Lp.done (Ex.ret u15))
  else
    some (Lp.done (Ex.brk ()))
noncomputable def find_places_1 (a0 : Int) (a1 : List UInt8) (a2 : List UInt8) (a3 : Int) : Option (Unit ⊕ Int) :=
  if (a1.length : Int) = 0 then
    some (Sum.inl ())
  else
    bnd (find_table a1) fun x2 =>
    bnd (loop (find_places_1.l2 a0 a1 a2 a3 x2) (0, 0) : Option (Ex Unit (Unit ⊕ Int))) fun t3 => match t3 with
      | .brk u4 =>
        some (Sum.inl ())
      | .ret u4 => some u4
theorem find_places_1_c {a0 : Int} {a1 : List UInt8} {a2 : List UInt8} {a3 : Int} {b0 : Nat} {b1 : Nat} {b2 : Nat} {b3 : Nat} {res : Unit ⊕ Int} (h0 : find_places_1 a0 a1 a2 a3 = some res) : CallF X 117 [.fn (.yield b0) [] [], dP b1, dP b2] [.lp b0 .ready none [11] rfA20_0 rfB20_0 [(6, (dP b3)), (5, .nod [dN a0])] 16, .var b1 [.sl 1 (lB a1)] 25, .var b2 [.sl 1 (lB a2)] 25, .var b3 [dN a3] 3] (fun x => (match res with | .inl res => .tup [] | .inr res => .tup [])) (fun x => (match res with | .inl res => [.lp b0 .ready none [11] rfA20_0 rfB20_0 [(6, (dP b3)), (5, .nod [dN a0])] 16, .var b1 [.sl 1 (lB a1)] 25, .var b2 [.sl 1 (lB a2)] 25, .var b3 [dN a3] 3] | .inr res => [.lp b0 .done (some (.ret)) [11] rfA20_0 rfB20_0 [(6, (dP b3)), (5, .nod [dN a0])] 16, .var b1 [.sl 1 (lB a1)] 25, .var b2 [.sl 1 (lB a2)] 25, .var b3 [dN res] 3])) := by
 unfold find_places_1 at h0
 refine CallF.mkG (X := X) rfl Try.func117 rfl rfl Try.ntmps117 rfl rfl ?_
 refine T.seq ?_
 refine aS ?_
 refine TL.op1 (OpR.loadPtr 1 rfl rfl rfl rfl) rfl ?_
 refine TL.op1 (OpR.cast (OpR.pure rfl) (intE (lenM _ _))) rfl ?_
 refine aA rfl rfl ?_
 refine aN rfl ?_
 rcases ite_some h0 with ⟨c1, h0⟩ | ⟨c1, h0⟩
 · refine T.condT rfl (beq_iff_eq.2 c1) ?_
   refine T.ret ?_
   obtain rfl := osi h0
   exact rO [0, 1, 2, 3] [] rfl undef ResL.nil rfl rfl rfl rfl
 refine T.condF rfl (beq_eq_false_iff_ne.2 c1) ?_
 refine aK rfl ?_
 refine aS ?_
 refine TL.op1 (OpR.loadPtr 1 rfl rfl rfl rfl) rfl ?_
 obtain ⟨x2, hx2, h0⟩ := bS h0
 refine TL.op1 (OpR.call0 fn118 (find_table_c hx2) rfl) rfl ?_
 refine aA rfl rfl ?_
 refine aN rfl ?_
 refine aS ?_
 refine aA rfl rfl ?_
 refine aN rfl ?_
 refine aS ?_
 refine TL.op1 (OpR.loadPtr 2 rfl rfl rfl rfl) rfl ?_
 refine TL.op1 (OpR.cast (OpR.pure rfl) (intE (lenM _ _))) rfl ?_
 refine aA rfl rfl ?_
 refine aN rfl ?_
 obtain ⟨t3, ht3, h0⟩ := bS h0
 refine T.cutN (fun S' => ∃ u4, t3 = Ex.brk u4 ∧ S' = ⟨[], [.lp b0 .ready none [11] rfA20_0 rfB20_0 [(6, (dP b3)), (5, .nod [dN a0])] 16, .var b1 [.sl 1 (lB a1)] 25, .var b2 [.sl 1 (lB a2)] 25, .var b3 [dN a3] 3], 62⟩) (fun _ _ g ⟨h, S', ds, g', r⟩ => ⟨h, S', ds, Gst.trans g g', r⟩) ?_ ?_
 rotate_left
 · rintro _ ⟨u4, rfl, rfl⟩
   obtain rfl := osi h0
   exact PostG.finP (ks := [0, 1, 2, 3]) (Gst.only [] rfl) undef ResL.nil rfl rfl rfl rfl
 refine T.block ?_
 obtain ⟨n6, n11⟩ := loop_some ht3
 refine T.loop (fun n S' => ∃ S'', Gst S' S'' ∧ ∃ s5 : Int × Int, S'' = ⟨[(15, (dN s5.2)), (14, (dN (a2.length : Int))), (13, .sl 1 (lB a2)), (5, (dN s5.1)), (4, .sl 1 (List.map (eI .i64) x2)), (1, (dP b1)), (0, .fn (.yield b0) [] [])], [.lp b0 .ready none [11] rfA20_0 rfB20_0 [(6, (dP b3)), (5, .nod [dN a0])] 16, .var b1 [.sl 1 (lB a1)] 25, .var b2 [.sl 1 (lB a2)] 25, .var b3 [dN a3] 3], 62⟩ ∧ iter (find_places_1.l2 a0 a1 a2 a3 x2) n s5 = some t3) n6 ?_ ?_
 · exact ⟨_, Gst.only [0, 1, 4, 5, 13, 14, 15] rfl, (0, 0), rfl, n11⟩
 rintro n6 _ ⟨_, g, s5, rfl, i10⟩
 refine T.ghost g ?_
 obtain ⟨m7, q8, rfl, q9, i10⟩ := iter_succ i10
 unfold find_places_1.l2 at q9
 refine aS ?_
 refine aA rfl rfl ?_
 refine aN rfl ?_
 refine T.seq ?_
 rcases ite_some q9 with ⟨c13, q9⟩ | ⟨c13, q9⟩
 rotate_left
 · refine T.condF rfl (eF c13) ?_
   refine T.exit ?_
   obtain rfl := osi q9
   obtain rfl : _ = _ := i10
   exact ⟨_, Gst.only [] rfl, _, rfl, rfl⟩
 refine T.condT rfl (eT c13) ?_
 refine aK rfl ?_
 refine T.seq ?_
 obtain ⟨t14, ht14, q9⟩ := bS q9
 refine T.cutC (fun S' => ∃ u15, t14 = Ex.brk u15 ∧ S' = ⟨[(15, (dN s5.2)), (14, (dN (a2.length : Int))), (13, .sl 1 (lB a2)), (5, (dN u15)), (4, .sl 1 (List.map (eI .i64) x2)), (1, (dP b1)), (0, .fn (.yield b0) [] [])], [.lp b0 .ready none [11] rfA20_0 rfB20_0 [(6, (dP b3)), (5, .nod [dN a0])] 16, .var b1 [.sl 1 (lB a1)] 25, .var b2 [.sl 1 (lB a2)] 25, .var b3 [dN a3] 3], 62⟩) (fun _ h => h) ?_ ?_
 rotate_left
 · rintro _ ⟨u15, rfl, rfl⟩
   show T X _ _ _
   refine T.region ?_
   iterate 2 refine aA rfl rfl ?_
   refine TL.nil ?_
   obtain rfl := osi q9
   exact ⟨m7, Nat.lt_succ_self _, _, Gst.only [0, 1, 4, 5, 13, 14, 15] rfl, (u15, w64 (s5.2 + 1)), rfl, i10⟩
 refine T.block ?_
 refine aS ?_
 refine aA rfl rfl ?_
 obtain ⟨x16, hx16, ht14⟩ := bS ht14
 refine TL.op1 (OpR.indexM byteD hx16 rfl rfl rfl rfl rfl) rfl ?_
 iterate 3 refine aA rfl rfl ?_
 refine aN rfl ?_
 refine T.seq ?_
 obtain ⟨t17, ht17, ht14⟩ := bS ht14
 refine T.cutC (fun S' => S' = ⟨[(15, (dN s5.2)), (14, (dN (a2.length : Int))), (13, .sl 1 (lB a2)), (7, .val (.int .u8 (x16.toNat : Int))), (6, (dN s5.2)), (5, (dN t17)), (4, .sl 1 (List.map (eI .i64) x2)), (1, (dP b1)), (0, .fn (.yield b0) [] [])], [.lp b0 .ready none [11] rfA20_0 rfB20_0 [(6, (dP b3)), (5, .nod [dN a0])] 16, .var b1 [.sl 1 (lB a1)] 25, .var b2 [.sl 1 (lB a2)] 25, .var b3 [dN a3] 3], 62⟩) (fun _ h => h) ?_ ?_
 rotate_left
 · rintro _ rfl
   show T X _ _ _
   refine T.seq ?_
   refine aS ?_
   refine aA rfl rfl ?_
   refine TL.op1 (OpR.loadPtr 1 rfl rfl rfl rfl) rfl ?_
   refine aA rfl rfl ?_
   obtain ⟨x32, hx32, ht14⟩ := bS ht14
   refine TL.op1 (OpR.indexM byteD hx32 rfl rfl rfl rfl rfl) rfl ?_
   iterate 2 refine aA rfl rfl ?_
   refine aN rfl ?_
   obtain ⟨t33, ht33, ht14⟩ := bS ht14
   refine T.cutC (fun S' => S' = ⟨[(15, (dN s5.2)), (14, (dN (a2.length : Int))), (13, .sl 1 (lB a2)), (6, (dN s5.2)), (5, (dN t33)), (4, .sl 1 (List.map (eI .i64) x2)), (1, (dP b1)), (0, .fn (.yield b0) [] [])], [.lp b0 .ready none [11] rfA20_0 rfB20_0 [(6, (dP b3)), (5, .nod [dN a0])] 16, .var b1 [.sl 1 (lB a1)] 25, .var b2 [.sl 1 (lB a2)] 25, .var b3 [dN a3] 3], 62⟩) (fun _ h => h) ?_ ?_
   · rcases ite_some ht33 with ⟨c34, ht33⟩ | ⟨c34, ht33⟩
     rotate_left
     · refine T.condF rfl (beq_eq_false_iff_ne.2 c34) ?_
       refine T.skip ?_
       obtain rfl := osi ht33
       exact ⟨_, Gst.only [0, 1, 4, 5, 6, 13, 14, 15] rfl, rfl⟩
     refine T.condT rfl (beq_iff_eq.2 c34) ?_
     refine T.region ?_
     iterate 3 refine aA rfl rfl ?_
     refine TL.nil ?_
     obtain rfl := osi ht33
     exact ⟨_, Gst.only [0, 1, 4, 5, 6, 13, 14, 15] rfl, rfl⟩
   rintro _ rfl
   show T X _ _ _
   refine aS ?_
   refine aA rfl rfl ?_
   refine TL.op1 (OpR.loadPtr 1 rfl rfl rfl rfl) rfl ?_
   refine TL.op1 (OpR.cast (OpR.pure rfl) (intE (lenM _ _))) rfl ?_
   iterate 2 refine aA rfl rfl ?_
   rcases ite_some ht14 with ⟨c35, ht14⟩ | ⟨c35, ht14⟩
   rotate_left
   · refine TL.off rfl rfl rfl rfl (beq_eq_false_iff_ne.2 c35) rfl rfl ?_
     refine TL.off rfl rfl rfl rfl (beq_eq_false_iff_ne.2 c35) rfl rfl ?_
     refine TL.off rfl rfl rfl rfl (beq_eq_false_iff_ne.2 c35) rfl rfl ?_
     refine TL.off rfl rfl rfl rfl (beq_eq_false_iff_ne.2 c35) rfl rfl ?_
     refine TL.off rfl rfl rfl rfl (beq_eq_false_iff_ne.2 c35) rfl rfl ?_
     refine TL.off rfl rfl rfl rfl (beq_eq_false_iff_ne.2 c35) rfl rfl ?_
     refine TL.off rfl rfl rfl rfl (beq_eq_false_iff_ne.2 c35) rfl rfl ?_
     refine TL.op1 (OpR.pickF rfl (beq_eq_false_iff_ne.2 c35) rfl) rfl ?_
     refine aN rfl ?_
     refine T.condF rfl rfl ?_
     refine T.skip ?_
     obtain rfl := osi ht14
     exact ⟨_, Gst.only [0, 1, 4, 5, 13, 14, 15] rfl, _, rfl, rfl⟩
   refine TL.on rfl rfl rfl rfl (beq_iff_eq.2 c35) ?_
   refine aA rfl rfl ?_
   refine TL.on rfl rfl rfl rfl (beq_iff_eq.2 c35) ?_
   refine aA rfl rfl ?_
   refine TL.on rfl rfl rfl rfl (beq_iff_eq.2 c35) ?_
   refine aA rfl rfl ?_
   refine TL.on rfl rfl rfl rfl (beq_iff_eq.2 c35) ?_
   refine aA rfl rfl ?_
   refine TL.on rfl rfl rfl rfl (beq_iff_eq.2 c35) ?_
   refine aA rfl rfl ?_
   refine TL.on rfl rfl rfl rfl (beq_iff_eq.2 c35) ?_
   obtain ⟨x36, hx36, ht14⟩ := bS ht14
   rcases x36 with x36 | x36
   rotate_left
   · dsimp only at ht14
     refine TL.op1 (OpR.callY [0, 3] rfl (find_First_r0_cx2 hx36) rfl rfl rfl (fun _ => rfl)) rfl ?_
     refine TL.on rfl rfl rfl rfl (beq_iff_eq.2 c35) ?_
     refine aA rfl rfl ?_
     refine TL.op1 (OpR.pickT rfl (beq_iff_eq.2 c35) rfl) rfl ?_
     refine aN rfl ?_
     refine T.condF rfl rfl ?_
     refine T.skip ?_
     obtain rfl := osi ht14
     exact ⟨_, Gst.only [0, 1, 4, 5, 13, 14, 15] rfl, _, rfl, rfl⟩
   dsimp only at ht14
   refine TL.op1 (OpR.callY [0, 3] rfl (find_First_r0_cx1 hx36) rfl rfl rfl (fun _ => rfl)) rfl ?_
   refine TL.on rfl rfl rfl rfl (beq_iff_eq.2 c35) ?_
   refine aA rfl rfl ?_
   refine TL.op1 (OpR.pickT rfl (beq_iff_eq.2 c35) rfl) rfl ?_
   refine aN rfl ?_
   refine T.condT rfl rfl ?_
   refine T.ret ?_
   obtain rfl := osi ht14
   obtain rfl := osi q9
   obtain rfl : _ = _ := i10
   obtain rfl := osi h0
   exact rO [0, 1, 2, 3] [] rfl undef ResL.nil rfl rfl rfl rfl
 refine T.block ?_
 obtain ⟨n19, n24⟩ := loop_some ht17
 refine T.loop (fun n S' => ∃ S'', Gst S' S'' ∧ ∃ s18 : Int, S'' = ⟨[(15, (dN s5.2)), (14, (dN (a2.length : Int))), (13, .sl 1 (lB a2)), (7, .val (.int .u8 (x16.toNat : Int))), (6, (dN s5.2)), (5, (dN s18)), (4, .sl 1 (List.map (eI .i64) x2)), (1, (dP b1)), (0, .fn (.yield b0) [] [])], [.lp b0 .ready none [11] rfA20_0 rfB20_0 [(6, (dP b3)), (5, .nod [dN a0])] 16, .var b1 [.sl 1 (lB a1)] 25, .var b2 [.sl 1 (lB a2)] 25, .var b3 [dN a3] 3], 62⟩ ∧ iter (find_places_1.l1 a1 x2 x16) n s18 = some t17) n19 ?_ ?_
 · exact ⟨_, Gst.only [0, 1, 4, 5, 6, 7, 13, 14, 15] rfl, s5.1, rfl, n24⟩
 rintro n19 _ ⟨_, g, s18, rfl, i23⟩
 refine T.ghost g ?_
 obtain ⟨m20, q21, rfl, q22, i23⟩ := iter_succ i23
 unfold find_places_1.l1 at q22
 refine T.seq ?_
 refine T.seq ?_
 obtain ⟨t26, ht26, q22⟩ := bS q22
 refine T.cutC (fun S' => S' = ⟨[(35, (dT t26)), (15, (dN s5.2)), (14, (dN (a2.length : Int))), (13, .sl 1 (lB a2)), (7, .val (.int .u8 (x16.toNat : Int))), (6, (dN s5.2)), (5, (dN s18)), (4, .sl 1 (List.map (eI .i64) x2)), (1, (dP b1)), (0, .fn (.yield b0) [] [])], [.lp b0 .ready none [11] rfA20_0 rfB20_0 [(6, (dP b3)), (5, .nod [dN a0])] 16, .var b1 [.sl 1 (lB a1)] 25, .var b2 [.sl 1 (lB a2)] 25, .var b3 [dN a3] 3], 62⟩) (fun _ h => h) ?_ ?_
 rotate_left
 · rintro _ rfl
   show T X _ _ _
   rcases ite_some q22 with ⟨c30, q22⟩ | ⟨c30, q22⟩
   rotate_left
   · refine T.condF rfl (eq_false_of_ne_true c30) ?_
     refine T.exit ?_
     obtain rfl := osi q22
     obtain rfl : _ = _ := i23
     exact ⟨_, Gst.only [0, 1, 4, 5, 6, 7, 13, 14, 15] rfl, rfl⟩
   refine T.condT rfl (c30) ?_
   refine aK rfl ?_
   refine T.block ?_
   refine T.region ?_
   iterate 2 refine aA rfl rfl ?_
   obtain ⟨x31, hx31, q22⟩ := bS q22
   refine TL.op1 (OpR.indexM (eI .i64) hx31 rfl rfl rfl rfl rfl) rfl ?_
   iterate 2 refine aA rfl rfl ?_
   refine TL.nil ?_
   obtain rfl := osi q22
   exact ⟨m20, Nat.lt_succ_self _, _, Gst.only [0, 1, 4, 5, 6, 7, 13, 14, 15] rfl, x31, rfl, i23⟩
 refine T.region ?_
 iterate 3 refine aA rfl rfl ?_
 rcases ite_some ht26 with ⟨c27, ht26⟩ | ⟨c27, ht26⟩
 rotate_left
 · refine TL.off rfl rfl rfl rfl (eF c27) rfl rfl ?_
   refine TL.off rfl rfl rfl rfl (eF c27) rfl rfl ?_
   refine TL.off rfl rfl rfl rfl (eF c27) rfl rfl ?_
   refine TL.off rfl rfl rfl rfl (eF c27) rfl rfl ?_
   refine TL.off rfl rfl rfl rfl (eF c27) rfl rfl ?_
   refine TL.offU rfl rfl rfl rfl rfl rfl ?_
   refine TL.offU rfl rfl rfl rfl rfl rfl ?_
   refine TL.offU rfl rfl rfl rfl rfl rfl ?_
   refine TL.offU rfl rfl rfl rfl rfl rfl ?_
   refine TL.offU rfl rfl rfl rfl rfl rfl ?_
   refine TL.offU rfl rfl rfl rfl rfl rfl ?_
   refine TL.off rfl rfl rfl rfl (eF c27) rfl rfl ?_
   refine TL.op1 (OpR.pickF rfl (eF c27) rfl) rfl ?_
   refine TL.nil ?_
   obtain rfl := osi ht26
   exact ⟨_, Gst.only [0, 1, 4, 5, 6, 7, 13, 14, 15, 35] rfl, rfl⟩
 refine TL.on rfl rfl rfl rfl (eT c27) ?_
 refine aA rfl rfl ?_
 refine TL.on rfl rfl rfl rfl (eT c27) ?_
 refine TL.op1 (OpR.loadPtr 1 rfl rfl rfl rfl) rfl ?_
 refine TL.on rfl rfl rfl rfl (eT c27) ?_
 refine TL.op1 (OpR.cast (OpR.pure rfl) (intE (lenM _ _))) rfl ?_
 refine TL.on rfl rfl rfl rfl (eT c27) ?_
 refine aA rfl rfl ?_
 refine TL.on rfl rfl rfl rfl (eT c27) ?_
 refine aA rfl rfl ?_
 rcases ite_some ht26 with ⟨c28, ht26⟩ | ⟨c28, ht26⟩
 · refine TL.off rfl rfl rfl rfl (beq_iff_eq.2 c28) rfl rfl ?_
   refine TL.off rfl rfl rfl rfl (beq_iff_eq.2 c28) rfl rfl ?_
   refine TL.off rfl rfl rfl rfl (beq_iff_eq.2 c28) rfl rfl ?_
   refine TL.off rfl rfl rfl rfl (beq_iff_eq.2 c28) rfl rfl ?_
   refine TL.off rfl rfl rfl rfl (beq_iff_eq.2 c28) rfl rfl ?_
   refine TL.off rfl rfl rfl rfl (beq_iff_eq.2 c28) rfl rfl ?_
   refine TL.on rfl rfl rfl rfl (eT c27) ?_
   refine TL.op1 (OpR.pickT rfl (beq_iff_eq.2 c28) rfl) rfl ?_
   refine TL.op1 (OpR.pickT rfl (eT c27) rfl) rfl ?_
   refine TL.nil ?_
   obtain rfl := osi ht26
   exact ⟨_, Gst.only [0, 1, 4, 5, 6, 7, 13, 14, 15, 35] rfl, rfl⟩
 refine TL.on rfl rfl rfl rfl (beq_eq_false_iff_ne.2 c28) ?_
 refine aA rfl rfl ?_
 refine TL.on rfl rfl rfl rfl (beq_eq_false_iff_ne.2 c28) ?_
 refine TL.op1 (OpR.loadPtr 1 rfl rfl rfl rfl) rfl ?_
 refine TL.on rfl rfl rfl rfl (beq_eq_false_iff_ne.2 c28) ?_
 refine aA rfl rfl ?_
 refine TL.on rfl rfl rfl rfl (beq_eq_false_iff_ne.2 c28) ?_
 obtain ⟨x29, hx29, ht26⟩ := bS ht26
 refine TL.op1 (OpR.indexM byteD hx29 rfl rfl rfl rfl rfl) rfl ?_
 refine TL.on rfl rfl rfl rfl (beq_eq_false_iff_ne.2 c28) ?_
 refine aA rfl rfl ?_
 refine TL.on rfl rfl rfl rfl (beq_eq_false_iff_ne.2 c28) ?_
 refine aA rfl rfl ?_
 refine TL.on rfl rfl rfl rfl (eT c27) ?_
 refine TL.op1 (OpR.pickF rfl (beq_eq_false_iff_ne.2 c28) rfl) rfl ?_
 refine TL.op1 (OpR.pickT rfl (eT c27) rfl) rfl ?_
 refine TL.nil ?_
 obtain rfl := osi ht26
 exact ⟨_, Gst.only [0, 1, 4, 5, 6, 7, 13, 14, 15, 35] rfl, rfl⟩
theorem find_places_1_cx1 {a0 : Int} {a1 : List UInt8} {a2 : List UInt8} {a3 : Int} {b0 : Nat} {b1 : Nat} {b2 : Nat} {b3 : Nat} {res : Unit} (h0 : find_places_1 a0 a1 a2 a3 = some (Sum.inl res)) : CallF X 117 [.fn (.yield b0) [] [], dP b1, dP b2] [.lp b0 .ready none [11] rfA20_0 rfB20_0 [(6, (dP b3)), (5, .nod [dN a0])] 16, .var b1 [.sl 1 (lB a1)] 25, .var b2 [.sl 1 (lB a2)] 25, .var b3 [dN a3] 3] (fun x => .tup []) (fun x => [.lp b0 .ready none [11] rfA20_0 rfB20_0 [(6, (dP b3)), (5, .nod [dN a0])] 16, .var b1 [.sl 1 (lB a1)] 25, .var b2 [.sl 1 (lB a2)] 25, .var b3 [dN a3] 3]) := find_places_1_c h0
theorem find_places_1_cx2 {a0 : Int} {a1 : List UInt8} {a2 : List UInt8} {a3 : Int} {b0 : Nat} {b1 : Nat} {b2 : Nat} {b3 : Nat} {res : Int} (h0 : find_places_1 a0 a1 a2 a3 = some (Sum.inr res)) : CallF X 117 [.fn (.yield b0) [] [], dP b1, dP b2] [.lp b0 .ready none [11] rfA20_0 rfB20_0 [(6, (dP b3)), (5, .nod [dN a0])] 16, .var b1 [.sl 1 (lB a1)] 25, .var b2 [.sl 1 (lB a2)] 25, .var b3 [dN a3] 3] (fun x => .tup []) (fun x => [.lp b0 .done (some (.ret)) [11] rfA20_0 rfB20_0 [(6, (dP b3)), (5, .nod [dN a0])] 16, .var b1 [.sl 1 (lB a1)] 25, .var b2 [.sl 1 (lB a2)] 25, .var b3 [dN res] 3]) := find_places_1_c h0
noncomputable def find_First (a0 : List UInt8) (a1 : List UInt8) (a2 : Int) : Option Int :=
  bnd (find_places a0 a1) fun x2 =>
  bnd (find_places_1 a2 x2.1 x2.2 0) fun x5 =>
  match x5 with
  | .inl x5 =>
      some (-1)
  | .inr x5 =>
      some x5
theorem find_First_c {a0 : List UInt8} {a1 : List UInt8} {a2 : Int} {res : Int} (h0 : find_First a0 a1 a2 = some res) : CallF X 20 [.sl 1 (lB a0), .sl 1 (lB a1), dN a2] [] (fun x => (dN res)) (fun x => []) := by
 unfold find_First at h0
 refine CallF.mkG (X := X) rfl Try.func20 rfl rfl Try.ntmps20 rfl rfl ?_
 refine aS ?_
 refine TL.op1 (OpR.boxImm rfl rfl) rfl ?_
 refine TL.op (OpR.alloc rfl rfl (fun _ => rfl)) rfl (fun p1 => ?_)
 refine aN rfl ?_
 refine T.seq ?_
 refine aS ?_
 iterate 2 refine aA rfl rfl ?_
 obtain ⟨x2, hx2, h0⟩ := bS h0
 refine TL.op (OpR.call [] fn64 (find_places_c hx2) rfl rfl rfl (fun _ => rfl)) rfl (fun w3 => ?_)
 refine aN rfl ?_
 refine T.block ?_
 obtain ⟨x5, hx5, h0⟩ := bS h0
 rcases x5 with x5 | x5
 rotate_left
 · dsimp only at h0
   refine T.rangeJ (A := rfA20_0) (B := rfB20_0) (.ret) [5, 6] [1, 2, 0] (.inl rfl) rfl rfl rfl rfl rfl fn117 rfl rfl (fun l4 => (find_places_1_cx2 hx5)) (fun _ => rfl) (fun w7 => ?_)
   refine T.ret ?_
   obtain rfl := osi h0
   exact rP [] [6] [0] rfl rfl rfl undef (cV 0 rfl rfl rfl rfl ResL.nil) rfl rfl rfl rfl
 dsimp only at h0
 refine T.rangeN (A := rfA20_0) (B := rfB20_0) [5, 6] [1, 2, 0] (.inl rfl) rfl rfl rfl rfl rfl fn117 rfl rfl (fun l4 => (find_places_1_cx1 hx5)) (fun _ => rfl) (fun w6 => ?_)
 show T X _ _ _
 refine aS ?_
 refine TL.op0 (OpR.store 0 rfl rfl rfl rfl rfl rfl rfl rfl) ?_
 refine aN rfl ?_
 refine T.ret ?_
 obtain rfl := osi h0
 exact rP [] [6] [0] rfl rfl rfl undef (cV 0 rfl rfl rfl rfl ResL.nil) rfl rfl rfl rfl
noncomputable def find_having_1 (a0 : cell_Cell) (a1 : List UInt8) (a2 : List UInt8) : Option Bool :=
  bnd (cell_Cell_Bytes a0 a2) fun x2 =>
  bnd (find_First x2 a1 0) fun x3 =>
  some (decide (x3 ≥ 0))
theorem find_having_1_c {a0 : cell_Cell} {a1 : List UInt8} {a2 : List UInt8} {b0 : Nat} {b1 : Nat} {b2 : Nat} {v3 : Value} {res : Bool} (h0 : find_having_1 a0 a1 a2 = some res) : CallF X 159 [.agg [.sl 2 (List.map e_arena_Span a0.fText.fL), dN a0.fText.fN, dN a0.fRaw.fAt, dN a0.fRaw.fN, dT a0.fKept], dP b0, dP b1] [.var b0 [dP b2] 39, .var b1 [.sl 1 (lB a1)] 25, .var b2 [.val v3] 142, .row v3 (lB a2) 1 5] (fun x => (dT res)) (fun x => [.var b0 [dP b2] 39, .var b1 [.sl 1 (lB a1)] 25, .var b2 [.val v3] 142, .row v3 (lB a2) 1 5]) := by
 unfold find_having_1 at h0
 refine CallF.mkG (X := X) rfl Try.func159 rfl rfl Try.ntmps159 rfl rfl ?_
 refine aS ?_
 refine TL.op1 (OpR.boxImm rfl rfl) rfl ?_
 refine aA rfl rfl ?_
 refine aN rfl ?_
 refine T.seq ?_
 obtain ⟨x2, hx2, h0⟩ := bS h0
 obtain ⟨x3, hx3, h0⟩ := bS h0
 refine T.drawQ drawsX [.agg [.sl 2 (List.map e_arena_Span a0.fText.fL), dN a0.fText.fN, dN a0.fRaw.fAt, dN a0.fRaw.fN, dT a0.fKept], dP b2, .sl 1 (lB x2), .sl 1 (lB a1), dN x3, dT (decide (x3 ≥ 0)), dT (decide (x3 ≥ 0))] [4] (by decide +kernel) rfl ?_ rfl ?_
 rotate_left
 · show T X _ _ _
   refine T.ret ?_
   obtain rfl := osi h0
   exact rO [0, 1, 2, 3] [4] rfl undef (cT rfl ResL.nil) rfl rfl rfl rfl
 refine aB rfl rfl rfl ?_
 refine OpsQ.yes (Want.plain rfl) rfl (OpR.loadPtr 0 rfl rfl rfl rfl) ?_
 refine OpsQ.yes (Want.plain rfl) rfl (OpR.call [2, 3] fn102 (cell_Cell_Bytes_c hx2) rfl rfl rfl (fun _ => rfl)) ?_
 refine OpsQ.yes (Want.plain rfl) rfl (OpR.loadPtr 1 rfl rfl rfl rfl) ?_
 refine OpsQ.yes (Want.plain rfl) rfl (OpR.call0 fn20 (find_First_c hx3) rfl) ?_
 iterate 2 refine aB rfl rfl rfl ?_
 exact OpsQ.nil
noncomputable def find_Count_r0 (a0 : find_spot) (a1 : Int) : Option Int :=
  some (w64 (a1 + 1))
theorem find_Count_r0_c {a0 : find_spot} {a1 : Int} {b0 : Nat} {b1 : Nat} {res : Int} (h0 : find_Count_r0 a0 a1 = some res) : RoundF X b0 [.agg [dN a0.fR, dN a0.fC]] [.lp b0 .ready none [12] rfA56_0 rfB56_0 [(7, (dP b1))] 16, .var b1 [dN a1] 3] (fun x => (dT true)) (fun x => [.lp b0 .ready none [12] rfA56_0 rfB56_0 [(7, (dP b1))] 16, .var b1 [dN res] 3]) := by
 unfold find_Count_r0 at h0
 refine RoundF.mk (X := X) rfl rfl rfl ?_
 refine T.skip ?_
 refine RoundA.mk ?_
 refine T.block ?_
 refine T.region ?_
 refine TL.op1 (OpR.loadPtr 1 rfl rfl rfl rfl) rfl ?_
 refine aA rfl rfl ?_
 refine TL.op0 (OpR.store 1 rfl rfl rfl rfl rfl rfl rfl rfl) ?_
 refine TL.nil ?_
 obtain rfl := osi h0
 exact RoundG.mk (ks := [0, 1]) (Gst.only [] rfl) undef rfl rfl rfl rfl rfl
noncomputable def find_having_2_r0_3.l1 (a0 : Int) (a1 : row_Row) (a2 : List UInt8) (a4 : List UInt8) (s34 : Int × Int) : Option (Lp (Int × Int) (Ex Int (Int ⊕ Int))) :=
  if s34.1 < (a1.fCells.length : Int) then
    bnd (idx a1.fCells s34.1) fun x43 =>
    bnd (if a1.fHidden = true then
      some (false, s34.2)
    else
      bnd (find_having_1 x43 a2 a4) fun x47 =>
      if x47 = true then
        bnd (find_Count_r0 (⟨a0, s34.1⟩ : find_spot) s34.2) fun x49 =>
        some (false, x49)
      else
        some (false, s34.2) : Option (Bool × Int)) fun t45 =>
    if t45.1 = true then
      some (Lp.done (Ex.ret (Sum.inl t45.2)))
    else
      some (Lp.next (w64 (s34.1 + 1), t45.2))
  else
    some (Lp.done (Ex.brk s34.2))
noncomputable def find_having_2_r0_3 (a0 : Int) (a1 : row_Row) (a2 : List UInt8) (a3 : Int) (a4 : List UInt8) : Option (Int ⊕ Int) :=
  bnd (loop (find_having_2_r0_3.l1 a0 a1 a2 a4) (0, a3) : Option (Ex Int (Int ⊕ Int))) fun t32 => match t32 with
    | .brk u33 =>
      some (Sum.inr u33)
    | .ret u33 => some u33
theorem find_having_2_r0_3_c {a0 : Int} {a1 : row_Row} {a2 : List UInt8} {a3 : Int} {a4 : List UInt8} {b0 : Nat} {b1 : Nat} {b2 : Nat} {b3 : Nat} {b4 : Nat} {b5 : Nat} {b6 : Nat} {v7 : Value} {res : Int ⊕ Int} (h0 : find_having_2_r0_3 a0 a1 a2 a3 a4 = some res) : RoundF X b0 [dN a0, .agg [.sl 5 (List.map e_cell_Cell a1.fCells), dN a1.fEnd, dT a1.fHidden]] [.lp b0 .ready none [13, 14] rfA160_0 rfB160_0 [(3, .nod [.fn (.yield b2) [] []]), (2, (dP b1))] 40, .var b1 [.fn (.func 159) [] [dP b3, dP b4]] 239, .lp b2 .ready none [12] rfA56_0 rfB56_0 [(7, (dP b5))] 16, .var b3 [dP b6] 39, .var b4 [.sl 1 (lB a2)] 25, .var b5 [dN a3] 3, .var b6 [.val v7] 142, .row v7 (lB a4) 1 5] (fun x => (match res with | .inl res => (dT false) | .inr res => (dT true))) (fun x => (match res with | .inl res => [.lp b0 .done (some (.ret)) [13, 14] rfA160_0 rfB160_0 [(3, .nod [.fn (.yield b2) [] []]), (2, (dP b1))] 40, .var b1 [.fn (.func 159) [] [dP b3, dP b4]] 239, .lp b2 .ready none [12] rfA56_0 rfB56_0 [(7, (dP b5))] 16, .var b3 [dP b6] 39, .var b4 [.sl 1 (lB a2)] 25, .var b5 [dN res] 3, .var b6 [.val v7] 142, .row v7 (lB a4) 1 5] | .inr res => [.lp b0 .ready none [13, 14] rfA160_0 rfB160_0 [(3, .nod [.fn (.yield b2) [] []]), (2, (dP b1))] 40, .var b1 [.fn (.func 159) [] [dP b3, dP b4]] 239, .lp b2 .ready none [12] rfA56_0 rfB56_0 [(7, (dP b5))] 16, .var b3 [dP b6] 39, .var b4 [.sl 1 (lB a2)] 25, .var b5 [dN res] 3, .var b6 [.val v7] 142, .row v7 (lB a4) 1 5])) := by
 unfold find_having_2_r0_3 at h0
 refine RoundF.mk (X := X) rfl rfl rfl ?_
 refine aS ?_
 refine aA rfl rfl ?_
 refine TL.nil ?_
 show T (X.inR b0) _ _ _
 refine T.region ?_
 refine TL.op (OpR.alloc rfl rfl (fun _ => rfl)) rfl (fun p31 => ?_)
 refine TL.op0 (OpR.store 8 rfl rfl rfl rfl rfl rfl rfl rfl) ?_
 refine TL.nil ?_
 refine RoundA.mk ?_
 refine T.block ?_
 refine aS ?_
 refine aA rfl rfl ?_
 refine TL.op1 (OpR.loadPtr 8 rfl rfl rfl rfl) rfl ?_
 refine TL.op1 (OpR.cast (OpR.pure rfl) (intE (lenM _ _))) rfl ?_
 refine aA rfl rfl ?_
 refine TL.nil ?_
 show T (X.inR b0) _ _ _
 obtain ⟨t32, ht32, h0⟩ := bS h0
 refine T.cutN (fun S' => ∃ u33, t32 = Ex.brk u33 ∧ S' = ⟨[], [.lp b0 .busy none [13, 14] rfA160_0 rfB160_0 [(3, .nod [.fn (.yield b2) [] []]), (2, (dP b1))] 40, .var b1 [.fn (.func 159) [] [dP b3, dP b4]] 239, .lp b2 .ready none [12] rfA56_0 rfB56_0 [(7, (dP b5))] 16, .var b3 [dP b6] 39, .var b4 [.sl 1 (lB a2)] 25, .var b5 [dN u33] 3, .var b6 [.val v7] 142, .row v7 (lB a4) 1 5], 40⟩) (RoundG.ghost) ?_ ?_
 rotate_left
 · rintro _ ⟨u33, rfl, rfl⟩
   obtain rfl := osi h0
   exact RoundG.mk (ks := [0, 1, 2, 3, 4, 5, 6, 7]) (Gst.only [] rfl) undef rfl rfl rfl rfl rfl
 refine T.block ?_
 obtain ⟨n35, n40⟩ := loop_some ht32
 refine T.loop (fun n S' => ∃ S'', Gst S' S'' ∧ ∃ s34 : Int × Int, S'' = ⟨[(18, (dN s34.1)), (17, (dN (a1.fCells.length : Int))), (16, .sl 5 (List.map e_cell_Cell a1.fCells)), (5, (dP (blk p31))), (4, (dN a0)), (3, .nod [.fn (.yield b2) [] []]), (2, (dP b1))], [.lp b0 .busy none [13, 14] rfA160_0 rfB160_0 [(3, .nod [.fn (.yield b2) [] []]), (2, (dP b1))] 40, .var b1 [.fn (.func 159) [] [dP b3, dP b4]] 239, .lp b2 .ready none [12] rfA56_0 rfB56_0 [(7, (dP b5))] 16, .var b3 [dP b6] 39, .var b4 [.sl 1 (lB a2)] 25, .var b5 [dN s34.2] 3, .var b6 [.val v7] 142, .row v7 (lB a4) 1 5, .var (blk p31) [.sl 5 (List.map e_cell_Cell a1.fCells), dN a1.fEnd, dT a1.fHidden] 49], 40⟩ ∧ iter (find_having_2_r0_3.l1 a0 a1 a2 a4) n s34 = some t32) n35 ?_ ?_
 · exact ⟨_, Gst.only [2, 3, 4, 5, 16, 17, 18] rfl, (0, a3), rfl, n40⟩
 rintro n35 _ ⟨_, g, s34, rfl, i39⟩
 refine T.ghost g ?_
 obtain ⟨m36, q37, rfl, q38, i39⟩ := iter_succ i39
 unfold find_having_2_r0_3.l1 at q38
 refine aS ?_
 refine aA rfl rfl ?_
 refine TL.nil ?_
 show T (X.inR b0) _ _ _
 refine T.seq ?_
 rcases ite_some q38 with ⟨c42, q38⟩ | ⟨c42, q38⟩
 rotate_left
 · refine T.condF rfl (eF c42) ?_
   refine T.exit ?_
   obtain rfl := osi q38
   obtain rfl : _ = _ := i39
   exact ⟨_, gP [] [0, 1, 2, 3, 4, 5, 6, 7] rfl rfl rfl, _, rfl, rfl⟩
 refine T.condT rfl (eT c42) ?_
 refine T.skip ?_
 show T (X.inR b0) _ _ _
 refine T.seq ?_
 refine T.block ?_
 refine aS ?_
 refine aA rfl rfl ?_
 obtain ⟨x43, hx43, q38⟩ := bS q38
 refine TL.op1 (OpR.indexM e_cell_Cell hx43 rfl rfl rfl rfl rfl) rfl ?_
 refine aA rfl rfl ?_
 refine TL.op (OpR.alloc rfl rfl (fun _ => rfl)) rfl (fun p44 => ?_)
 refine aA rfl rfl ?_
 refine TL.op0 (OpR.store 9 rfl rfl rfl rfl rfl rfl rfl rfl) ?_
 refine TL.nil ?_
 show T (X.inR b0) _ _ _
 refine T.seq ?_
 obtain ⟨t45, ht45, q38⟩ := bS q38
 refine T.cutC (fun S' => S' = ⟨[(38, (dT t45.1)), (18, (dN s34.1)), (17, (dN (a1.fCells.length : Int))), (16, .sl 5 (List.map e_cell_Cell a1.fCells)), (5, (dP (blk p31))), (4, (dN a0)), (3, .nod [.fn (.yield b2) [] []]), (2, (dP b1))], [.lp b0 .busy none [13, 14] rfA160_0 rfB160_0 [(3, .nod [.fn (.yield b2) [] []]), (2, (dP b1))] 40, .var b1 [.fn (.func 159) [] [dP b3, dP b4]] 239, .lp b2 .ready none [12] rfA56_0 rfB56_0 [(7, (dP b5))] 16, .var b3 [dP b6] 39, .var b4 [.sl 1 (lB a2)] 25, .var b5 [dN t45.2] 3, .var b6 [.val v7] 142, .row v7 (lB a4) 1 5, .var (blk p31) [.sl 5 (List.map e_cell_Cell a1.fCells), dN a1.fEnd, dT a1.fHidden] 49], 40⟩) (fun _ h => h) ?_ ?_
 rotate_left
 · rintro _ rfl
   show T (X.inR b0) _ _ _
   rcases ite_some q38 with ⟨c50, q38⟩ | ⟨c50, q38⟩
   · refine T.condT rfl (c50) ?_
     refine T.ret ?_
     obtain rfl := osi q38
     obtain rfl : _ = _ := i39
     obtain rfl := osi h0
     exact RoundG.mk (ks := [0, 1, 2, 3, 4, 5, 6, 7]) (gP [] [0, 1, 2, 3, 4, 5, 6, 7] rfl rfl rfl) undef rfl rfl rfl rfl rfl
   refine T.condF rfl (eq_false_of_ne_true c50) ?_
   refine T.skip ?_
   show T (X.inR b0) _ _ _
   refine T.region ?_
   iterate 2 refine aA rfl rfl ?_
   refine TL.nil ?_
   obtain rfl := osi q38
   exact ⟨m36, Nat.lt_succ_self _, _, Gst.only [2, 3, 4, 5, 16, 17, 18] rfl, (w64 (s34.1 + 1), t45.2), rfl, i39⟩
 refine T.region ?_
 refine aA rfl rfl ?_
 refine TL.op1 (OpR.loadPtr 8 rfl rfl rfl rfl) rfl ?_
 iterate 2 refine aA rfl rfl ?_
 rcases ite_some ht45 with ⟨c46, ht45⟩ | ⟨c46, ht45⟩
 · refine TL.off rfl rfl rfl rfl (not_t (c46)) rfl rfl ?_
   refine TL.off rfl rfl rfl rfl (not_t (c46)) rfl rfl ?_
   refine TL.off rfl rfl rfl rfl (not_t (c46)) rfl rfl ?_
   refine TL.op1 (OpR.pickF rfl (not_t (c46)) rfl) rfl ?_
   refine aA rfl rfl ?_
   refine TL.off rfl rfl rfl rfl rfl rfl rfl ?_
   refine TL.off rfl rfl rfl rfl rfl rfl rfl ?_
   refine TL.off rfl rfl rfl rfl rfl rfl rfl ?_
   refine TL.off rfl rfl rfl rfl rfl rfl rfl ?_
   refine TL.off rfl rfl rfl rfl rfl rfl rfl ?_
   refine TL.off rfl rfl rfl rfl rfl rfl rfl ?_
   refine TL.op1 (OpR.pickF rfl rfl rfl) rfl ?_
   refine TL.nil ?_
   obtain rfl := osi ht45
   exact ⟨_, gP [2, 3, 4, 5, 16, 17, 18, 38] [0, 1, 2, 3, 4, 5, 6, 7, 8] rfl rfl rfl, rfl⟩
 refine TL.on rfl rfl rfl rfl (not_f (eq_false_of_ne_true c46)) ?_
 refine TL.op1 (OpR.loadPtr 1 rfl rfl rfl rfl) rfl ?_
 refine TL.on rfl rfl rfl rfl (not_f (eq_false_of_ne_true c46)) ?_
 refine TL.op1 (OpR.loadPtr 9 rfl rfl rfl rfl) rfl ?_
 refine TL.on rfl rfl rfl rfl (not_f (eq_false_of_ne_true c46)) ?_
 obtain ⟨x47, hx47, ht45⟩ := bS ht45
 refine TL.op1 (OpR.callV [3, 4, 6, 7] rfl fn159 (find_having_1_c hx47) rfl rfl rfl (fun _ => rfl)) rfl ?_
 refine TL.op1 (OpR.pickT rfl (not_f (eq_false_of_ne_true c46)) rfl) rfl ?_
 refine aA rfl rfl ?_
 rcases ite_some ht45 with ⟨c48, ht45⟩ | ⟨c48, ht45⟩
 rotate_left
 · refine TL.off rfl rfl rfl rfl (eq_false_of_ne_true c48) rfl rfl ?_
   refine TL.off rfl rfl rfl rfl (eq_false_of_ne_true c48) rfl rfl ?_
   refine TL.off rfl rfl rfl rfl (eq_false_of_ne_true c48) rfl rfl ?_
   refine TL.off rfl rfl rfl rfl (eq_false_of_ne_true c48) rfl rfl ?_
   refine TL.off rfl rfl rfl rfl (eq_false_of_ne_true c48) rfl rfl ?_
   refine TL.off rfl rfl rfl rfl (eq_false_of_ne_true c48) rfl rfl ?_
   refine TL.op1 (OpR.pickF rfl (eq_false_of_ne_true c48) rfl) rfl ?_
   refine TL.nil ?_
   obtain rfl := osi ht45
   exact ⟨_, gP [2, 3, 4, 5, 16, 17, 18, 38] [0, 1, 2, 3, 4, 5, 6, 7, 8] rfl rfl rfl, rfl⟩
 refine TL.on rfl rfl rfl rfl (c48) ?_
 refine aA rfl rfl ?_
 refine TL.on rfl rfl rfl rfl (c48) ?_
 refine aA rfl rfl ?_
 refine TL.on rfl rfl rfl rfl (c48) ?_
 refine aA rfl rfl ?_
 refine TL.on rfl rfl rfl rfl (c48) ?_
 refine TL.op1 (OpR.build rfl rfl rfl rfl rfl) rfl ?_
 refine TL.on rfl rfl rfl rfl (c48) ?_
 obtain ⟨x49, hx49, ht45⟩ := bS ht45
 refine TL.op1 (OpR.callY [2, 5] rfl (find_Count_r0_c hx49) rfl rfl rfl (fun _ => rfl)) rfl ?_
 refine TL.on rfl rfl rfl rfl (c48) ?_
 refine aA rfl rfl ?_
 refine TL.op1 (OpR.pickT rfl (c48) rfl) rfl ?_
 refine TL.nil ?_
 obtain rfl := osi ht45
 exact ⟨_, gP [2, 3, 4, 5, 16, 17, 18, 38] [0, 1, 2, 3, 4, 5, 6, 7, 8] rfl rfl rfl, rfl⟩
theorem find_having_2_r0_3_cx1 {a0 : Int} {a1 : row_Row} {a2 : List UInt8} {a3 : Int} {a4 : List UInt8} {b0 : Nat} {b1 : Nat} {b2 : Nat} {b3 : Nat} {b4 : Nat} {b5 : Nat} {b6 : Nat} {v7 : Value} {res : Int} (h0 : find_having_2_r0_3 a0 a1 a2 a3 a4 = some (Sum.inl res)) : RoundF X b0 [dN a0, .agg [.sl 5 (List.map e_cell_Cell a1.fCells), dN a1.fEnd, dT a1.fHidden]] [.lp b0 .ready none [13, 14] rfA160_0 rfB160_0 [(3, .nod [.fn (.yield b2) [] []]), (2, (dP b1))] 40, .var b1 [.fn (.func 159) [] [dP b3, dP b4]] 239, .lp b2 .ready none [12] rfA56_0 rfB56_0 [(7, (dP b5))] 16, .var b3 [dP b6] 39, .var b4 [.sl 1 (lB a2)] 25, .var b5 [dN a3] 3, .var b6 [.val v7] 142, .row v7 (lB a4) 1 5] (fun x => (dT false)) (fun x => [.lp b0 .done (some (.ret)) [13, 14] rfA160_0 rfB160_0 [(3, .nod [.fn (.yield b2) [] []]), (2, (dP b1))] 40, .var b1 [.fn (.func 159) [] [dP b3, dP b4]] 239, .lp b2 .ready none [12] rfA56_0 rfB56_0 [(7, (dP b5))] 16, .var b3 [dP b6] 39, .var b4 [.sl 1 (lB a2)] 25, .var b5 [dN res] 3, .var b6 [.val v7] 142, .row v7 (lB a4) 1 5]) := find_having_2_r0_3_c h0
theorem find_having_2_r0_3_cx2 {a0 : Int} {a1 : row_Row} {a2 : List UInt8} {a3 : Int} {a4 : List UInt8} {b0 : Nat} {b1 : Nat} {b2 : Nat} {b3 : Nat} {b4 : Nat} {b5 : Nat} {b6 : Nat} {v7 : Value} {res : Int} (h0 : find_having_2_r0_3 a0 a1 a2 a3 a4 = some (Sum.inr res)) : RoundF X b0 [dN a0, .agg [.sl 5 (List.map e_cell_Cell a1.fCells), dN a1.fEnd, dT a1.fHidden]] [.lp b0 .ready none [13, 14] rfA160_0 rfB160_0 [(3, .nod [.fn (.yield b2) [] []]), (2, (dP b1))] 40, .var b1 [.fn (.func 159) [] [dP b3, dP b4]] 239, .lp b2 .ready none [12] rfA56_0 rfB56_0 [(7, (dP b5))] 16, .var b3 [dP b6] 39, .var b4 [.sl 1 (lB a2)] 25, .var b5 [dN a3] 3, .var b6 [.val v7] 142, .row v7 (lB a4) 1 5] (fun x => (dT true)) (fun x => [.lp b0 .ready none [13, 14] rfA160_0 rfB160_0 [(3, .nod [.fn (.yield b2) [] []]), (2, (dP b1))] 40, .var b1 [.fn (.func 159) [] [dP b3, dP b4]] 239, .lp b2 .ready none [12] rfA56_0 rfB56_0 [(7, (dP b5))] 16, .var b3 [dP b6] 39, .var b4 [.sl 1 (lB a2)] 25, .var b5 [dN res] 3, .var b6 [.val v7] 142, .row v7 (lB a4) 1 5]) := find_having_2_r0_3_c h0
noncomputable def walk_Range_row_Row_1_3.l1 (a1 : Int) (a3 : List UInt8) (a5 : List UInt8) (s9 : Int × Int × (List wFr)) : Option (Lp (Int × Int × (List wFr)) (Ex Int (Int ⊕ Int))) :=
  if s9.1 < a1 then
    bnd (walk_stack_row_Row_top s9.2.2) fun x18 =>
    bnd (idx s9.2.2 x18) fun x19 =>
    bnd (some x19.fN) fun q20 => match q20 with
      | none =>
        none
      | some z21 =>
        bnd (o_tNd z21) fun x23 =>
        bnd (if x19.fNext = (x23.fItems.length : Int) then
          bnd (walk_stack_row_Row_forth s9.2.2) fun x28 =>
          some x28.2
        else
          some s9.2.2 : Option (List wFr)) fun t25 =>
        bnd (walk_stack_row_Row_top t25) fun x30 =>
        bnd (idx t25 x30) fun x31 =>
        bnd (some x31.fN) fun q32 => match q32 with
          | none =>
            none
          | some z33 =>
            bnd (o_tNd z33) fun x35 =>
            bnd (idx x35.fItems x31.fNext) fun x37 =>
            bnd (find_having_2_r0_3 s9.1 x37 a3 s9.2.1 a5) fun x38 =>
            match x38 with
            | .inl x38 =>
                some (Lp.done (Ex.ret (Sum.inr x38)))
            | .inr x38 =>
                some (Lp.next (w64 (s9.1 + 1), x38, (t25.set x30.toNat (⟨x31.fN, x31.fFirst, w64 (x31.fNext + 1)⟩ : wFr))))
  else
    some (Lp.done (Ex.brk s9.2.1))
noncomputable def walk_Range_row_Row_1_3 (a0 : Int) (a1 : Int) (a2 : Option NP) (a3 : List UInt8) (a4 : Int) (a5 : List UInt8) : Option (Int ⊕ Int) :=
  if a0 = a1 then
    some (Sum.inl a4)
  else
    bnd (tree_Tree_row_Row_Root (⟨a2⟩ : tTr)) fun x4 =>
    match x4 with
    | .inl x4 =>
        none
    | .inr x4 =>
        bnd (walk_stack_row_Row_down x4.1 x4.2.1 x4.2.2 0 a0) fun x5 =>
        bnd (loop (walk_Range_row_Row_1_3.l1 a1 a3 a5) (a0, a4, x5) : Option (Ex Int (Int ⊕ Int))) fun t6 => match t6 with
          | .brk u7 =>
            some (Sum.inl u7)
          | .ret u7 => some u7
theorem walk_Range_row_Row_1_3_c {a0 : Int} {a1 : Int} {a2 : Option NP} {a3 : List UInt8} {a4 : Int} {a5 : List UInt8} {b0 : Nat} {b1 : Nat} {b2 : Nat} {b3 : Nat} {b4 : Nat} {b5 : Nat} {b6 : Nat} {b7 : Nat} {b8 : Nat} {b9 : Nat} {v10 : Value} {res : Int ⊕ Int} (h0 : walk_Range_row_Row_1_3 a0 a1 a2 a3 a4 a5 = some res) : CallF X 194 [.fn (.yield b0) [] [], dP b1, dP b2, dP b3] [.lp b0 .ready none [13, 14] rfA160_0 rfB160_0 [(3, .nod [.fn (.yield b5) [] []]), (2, (dP b4))] 40, .var b1 [dN a0] 3, .var b2 [dN a1] 3, .var b3 [(eOP a2)] 118, .var b4 [.fn (.func 159) [] [dP b6, dP b7]] 239, .lp b5 .ready none [12] rfA56_0 rfB56_0 [(7, (dP b8))] 16, .var b6 [dP b9] 39, .var b7 [.sl 1 (lB a3)] 25, .var b8 [dN a4] 3, .var b9 [.val v10] 142, .row v10 (lB a5) 1 5] (fun x => (match res with | .inl res => .tup [] | .inr res => .tup [])) (fun x => (match res with | .inl res => [.lp b0 .ready none [13, 14] rfA160_0 rfB160_0 [(3, .nod [.fn (.yield b5) [] []]), (2, (dP b4))] 40, .var b1 [dN a0] 3, .var b2 [dN a1] 3, .var b3 [(eOP a2)] 118, .var b4 [.fn (.func 159) [] [dP b6, dP b7]] 239, .lp b5 .ready none [12] rfA56_0 rfB56_0 [(7, (dP b8))] 16, .var b6 [dP b9] 39, .var b7 [.sl 1 (lB a3)] 25, .var b8 [dN res] 3, .var b9 [.val v10] 142, .row v10 (lB a5) 1 5] | .inr res => [.lp b0 .done (some (.ret)) [13, 14] rfA160_0 rfB160_0 [(3, .nod [.fn (.yield b5) [] []]), (2, (dP b4))] 40, .var b1 [dN a0] 3, .var b2 [dN a1] 3, .var b3 [(eOP a2)] 118, .var b4 [.fn (.func 159) [] [dP b6, dP b7]] 239, .lp b5 .ready none [12] rfA56_0 rfB56_0 [(7, (dP b8))] 16, .var b6 [dP b9] 39, .var b7 [.sl 1 (lB a3)] 25, .var b8 [dN res] 3, .var b9 [.val v10] 142, .row v10 (lB a5) 1 5])) := by
 unfold walk_Range_row_Row_1_3 at h0
 refine CallF.mkG (X := X) rfl Try.func194 rfl rfl Try.ntmps194 rfl rfl ?_
 refine T.seq ?_
 refine aS ?_
 refine TL.op1 (OpR.loadPtr 1 rfl rfl rfl rfl) rfl ?_
 refine TL.op1 (OpR.loadPtr 2 rfl rfl rfl rfl) rfl ?_
 refine aA rfl rfl ?_
 refine aN rfl ?_
 rcases ite_some h0 with ⟨c1, h0⟩ | ⟨c1, h0⟩
 · refine T.condT rfl (beq_iff_eq.2 c1) ?_
   refine T.ret ?_
   obtain rfl := osi h0
   exact rO [0, 1, 2, 3, 4, 5, 6, 7, 8, 9, 10] [] rfl undef ResL.nil rfl rfl rfl rfl
 refine T.condF rfl (beq_eq_false_iff_ne.2 c1) ?_
 refine aK rfl ?_
 refine aS ?_
 refine TL.op (OpR.alloc rfl rfl (fun _ => rfl)) rfl (fun p2 => ?_)
 refine aN rfl ?_
 refine T.seq ?_
 obtain ⟨x4, hx4, h0⟩ := bS h0
 rcases x4 with x4 | x4
 · dsimp only at h0
   exact (by cases h0)
 dsimp only at h0
 obtain ⟨x5, hx5, h0⟩ := bS h0
 refine T.drawS drawsX (fun env3 => [.agg [(eOP a2)], .nod [.sl 1 (List.map eNP x4.1), .sl 3 (List.map e_row_Row x4.2.1), dN x4.2.2], dN a0, .tup []]) (fun D env3 => [.lp b0 .ready none [13, 14] rfA160_0 rfB160_0 [(3, .nod [.fn (.yield b5) [] []]), (2, (dP b4))] 40, .var b1 [dN a0] 3, .var b2 [dN a1] 3, .var b3 [(eOP a2)] 118, .var b4 [.fn (.func 159) [] [dP b6, dP b7]] 239, .lp b5 .ready none [12] rfA56_0 rfB56_0 [(7, (dP b8))] 16, .var b6 [dP b9] 39, .var b7 [.sl 1 (lB a3)] 25, .var b8 [dN a4] 3, .var b9 [.val v10] 142, .row v10 (lB a5) 1 5, (bif D 3 then .var (blk p2) [.val (vn (env3 3) 0)] 272 else .var (blk p2) [.val (.slice none 0 0)] 272)] ++ (bif D 3 then [.row (vn (env3 3) 0) (List.map e_wFr x5) 3 278] else [])) [0, 1, 0, 7] [0, 1, 2, 5] _ (by decide +kernel) (by decide +kernel) (fun _ => rfl) (fun _ => rfl) ?_ (fun _ => rfl) (fun _ => rfl) ?_
 · refine oT (.agg [(eOP a2)]) (fun _ _ => OpR.loadPtr 3 rfl rfl rfl rfl) ?_
   refine oT (.nod [.sl 1 (List.map eNP x4.1), .sl 3 (List.map e_row_Row x4.2.1), dN x4.2.2]) (fun _ _ => OpR.call0 fn196 (tree_Tree_row_Row_Root_cx2 hx4) rfl) ?_
   refine oT ((dN a0)) (fun _ _ => OpR.loadPtr 1 rfl rfl rfl rfl) ?_
   refine OpsS.cons' true ?_ (fun D hA env3 x j hj hD => match j, hj, hD with | 0, _, _ => rfl | 1, _, _ => rfl | 2, _, _ => rfl | 3, hj, _ => absurd rfl hj | _ + 4, _, _ => rfl) ?_
   · intro D env3 hA
     exact OpS.yp [(3, false)] ⟨hA.me, trivial⟩ (Want.plain rfl) (OpR.call [11] fn195 (walk_stack_row_Row_down_c hx5) rfl rfl rfl (fun _ => rfl)) (fun x => rfl) (fun x => rfl)
   exact trivial
 intro env3
 show T X _ _ _
 refine aS ?_
 refine TL.op1 (OpR.loadPtr 1 rfl rfl rfl rfl) rfl ?_
 refine aA rfl rfl ?_
 refine aN rfl ?_
 obtain ⟨t6, ht6, h0⟩ := bS h0
 refine T.cutN (fun S' => ∃ u7, t6 = Ex.brk u7 ∧ S' = ⟨[], [.lp b0 .ready none [13, 14] rfA160_0 rfB160_0 [(3, .nod [.fn (.yield b5) [] []]), (2, (dP b4))] 40, .var b1 [dN a0] 3, .var b2 [dN a1] 3, .var b3 [(eOP a2)] 118, .var b4 [.fn (.func 159) [] [dP b6, dP b7]] 239, .lp b5 .ready none [12] rfA56_0 rfB56_0 [(7, (dP b8))] 16, .var b6 [dP b9] 39, .var b7 [.sl 1 (lB a3)] 25, .var b8 [dN u7] 3, .var b9 [.val v10] 142, .row v10 (lB a5) 1 5], 62⟩) (fun _ _ g ⟨h, S', ds, g', r⟩ => ⟨h, S', ds, Gst.trans g g', r⟩) ?_ ?_
 rotate_left
 · rintro _ ⟨u7, rfl, rfl⟩
   obtain rfl := osi h0
   exact PostG.finP (ks := [0, 1, 2, 3, 4, 5, 6, 7, 8, 9, 10]) (Gst.only [] rfl) undef ResL.nil rfl rfl rfl rfl
 refine T.block ?_
 obtain ⟨n10, n15⟩ := loop_some ht6
 refine T.loop (fun n S' => ∃ S'', Gst S' S'' ∧ ∃ y8 : Value, ∃ s9 : Int × Int × (List wFr), S'' = ⟨[(6, (dN s9.1)), (5, (dP (blk p2))), (2, (dP b2)), (0, .fn (.yield b0) [] [])], [.lp b0 .ready none [13, 14] rfA160_0 rfB160_0 [(3, .nod [.fn (.yield b5) [] []]), (2, (dP b4))] 40, .var b1 [dN a0] 3, .var b2 [dN a1] 3, .var b3 [(eOP a2)] 118, .var b4 [.fn (.func 159) [] [dP b6, dP b7]] 239, .lp b5 .ready none [12] rfA56_0 rfB56_0 [(7, (dP b8))] 16, .var b6 [dP b9] 39, .var b7 [.sl 1 (lB a3)] 25, .var b8 [dN s9.2.1] 3, .var b9 [.val v10] 142, .row v10 (lB a5) 1 5, .var (blk p2) [.val y8] 272, .row y8 (List.map e_wFr s9.2.2) 3 278], 62⟩ ∧ iter (walk_Range_row_Row_1_3.l1 a1 a3 a5) n s9 = some t6) n10 ?_ ?_
 · exact ⟨_, Gst.only [0, 2, 5, 6] rfl, (vn (env3 3) 0), (a0, a4, x5), rfl, n15⟩
 rintro n10 _ ⟨_, g, y8, s9, rfl, i14⟩
 refine T.ghost g ?_
 obtain ⟨m11, q12, rfl, q13, i14⟩ := iter_succ i14
 unfold walk_Range_row_Row_1_3.l1 at q13
 refine T.seq ?_
 refine aS ?_
 refine aA rfl rfl ?_
 refine TL.op1 (OpR.loadPtr 2 rfl rfl rfl rfl) rfl ?_
 refine aA rfl rfl ?_
 refine aN rfl ?_
 rcases ite_some q13 with ⟨c17, q13⟩ | ⟨c17, q13⟩
 rotate_left
 · refine T.condF rfl (eF c17) ?_
   refine T.exit ?_
   obtain rfl := osi q13
   obtain rfl : _ = _ := i14
   exact ⟨_, gP [] [0, 1, 2, 3, 4, 5, 6, 7, 8, 9, 10] rfl rfl rfl, _, rfl, rfl⟩
 refine T.condT rfl (eT c17) ?_
 refine aK rfl ?_
 refine T.seq ?_
 refine T.block ?_
 refine T.seq ?_
 refine aS ?_
 obtain ⟨x18, hx18, q13⟩ := bS q13
 refine TL.op1 (OpR.call [11, 12] fn197 (walk_stack_row_Row_top_c hx18) rfl rfl rfl (fun _ => rfl)) rfl ?_
 refine aA rfl rfl ?_
 refine aN rfl ?_
 refine T.seq ?_
 obtain ⟨x19, hx19, q13⟩ := bS q13
 obtain ⟨q20, hq20, q13⟩ := bS q13
 rcases q20 with _ | z21
 · dsimp only at q13
   exact (by cases q13)
 dsimp only at q13
 obtain ⟨x23, hx23, q13⟩ := bS q13
 rw [o_tNd_eq hx23] at hq20
 refine T.drawQ drawsX [.val (.pointer (some ⟨blk y8, x18.toNat * 3, none⟩)), .val (.pointer (some ⟨blk y8, x18.toNat * 3, none⟩)), .val (.pointer (some ⟨blk y8, x18.toNat * 3 + 2, none⟩)), dN x19.fNext, .val (.pointer (some ⟨blk y8, x18.toNat * 3, none⟩)), .val (.pointer (some ⟨blk y8, x18.toNat * 3, none⟩)), .val (.pointer (some ⟨blk y8, x18.toNat * 3, none⟩)), .nod [.sl 1 (List.map eNP x23.fKids), .sl 3 (List.map e_row_Row x23.fItems), dN x23.fN], .nod [.sl 1 (List.map eNP x23.fKids), .sl 3 (List.map e_row_Row x23.fItems), dN x23.fN], .nod [.sl 3 (List.map e_row_Row x23.fItems), dN x23.fN], .sl 3 (List.map e_row_Row x23.fItems), dN (x23.fItems.length : Int), dT (x19.fNext == (x23.fItems.length : Int))] [0, 2, 5, 6, 35] (by decide +kernel) rfl ?_ rfl ?_
 · iterate 3 refine aB rfl rfl rfl ?_
   refine OpsQ.yes (Want.plain rfl) rfl (OpR.rowLoadM (j := x18) e_wFr 12 hx19 rfl rfl rfl rfl) ?_
   iterate 3 refine aB rfl rfl rfl ?_
   refine OpsQ.yes (Want.plain rfl) rfl (OpR.cast (OpR.rowLoad0M (j := x18) e_wFr 12 hx19 rfl rfl rfl rfl) (congrArg eOP (osi hq20))) ?_
   iterate 3 refine aB rfl rfl rfl ?_
   refine OpsQ.yes (Want.plain rfl) rfl (OpR.cast (OpR.pure rfl) (intE (lenM _ _))) ?_
   refine aB rfl rfl rfl ?_
   exact OpsQ.nil
 show T X _ _ _
 obtain ⟨t25, ht25, q13⟩ := bS q13
 refine T.cutC (fun S' => ∃ y26 : Value, S' = ⟨[(6, (dN s9.1)), (5, (dP (blk p2))), (2, (dP b2)), (0, .fn (.yield b0) [] [])], [.lp b0 .ready none [13, 14] rfA160_0 rfB160_0 [(3, .nod [.fn (.yield b5) [] []]), (2, (dP b4))] 40, .var b1 [dN a0] 3, .var b2 [dN a1] 3, .var b3 [(eOP a2)] 118, .var b4 [.fn (.func 159) [] [dP b6, dP b7]] 239, .lp b5 .ready none [12] rfA56_0 rfB56_0 [(7, (dP b8))] 16, .var b6 [dP b9] 39, .var b7 [.sl 1 (lB a3)] 25, .var b8 [dN s9.2.1] 3, .var b9 [.val v10] 142, .row v10 (lB a5) 1 5, .var (blk p2) [.val y26] 272, .row y26 (List.map e_wFr t25) 3 278], 62⟩) (fun _ h => h) ?_ ?_
 · rcases ite_some ht25 with ⟨c27, ht25⟩ | ⟨c27, ht25⟩
   rotate_left
   · refine T.condF rfl (beq_eq_false_iff_ne.2 c27) ?_
     refine T.skip ?_
     obtain rfl := osi ht25
     exact ⟨_, Gst.only [0, 2, 5, 6] rfl, y8, rfl⟩
   refine T.condT rfl (beq_iff_eq.2 c27) ?_
   refine T.region ?_
   obtain ⟨x28, hx28, ht25⟩ := bS ht25
   refine TL.op (OpR.call [11, 12] fn198 (walk_stack_row_Row_forth_c hx28) rfl rfl rfl (fun _ => rfl)) rfl (fun w29 => ?_)
   refine TL.nil ?_
   obtain rfl := osi ht25
   exact ⟨_, Gst.only [0, 2, 5, 6] rfl, (vn w29 0), rfl⟩
 rintro _ ⟨y26, rfl⟩
 show T X _ _ _
 refine aS ?_
 obtain ⟨x30, hx30, q13⟩ := bS q13
 refine TL.op1 (OpR.call [11, 12] fn197 (walk_stack_row_Row_top_c hx30) rfl rfl rfl (fun _ => rfl)) rfl ?_
 refine aA rfl rfl ?_
 refine aN rfl ?_
 refine T.seq ?_
 refine T.seq ?_
 obtain ⟨x31, hx31, q13⟩ := bS q13
 obtain ⟨q32, hq32, q13⟩ := bS q13
 rcases q32 with _ | z33
 · dsimp only at q13
   exact (by cases q13)
 dsimp only at q13
 obtain ⟨x35, hx35, q13⟩ := bS q13
 rw [o_tNd_eq hx35] at hq32
 obtain ⟨x37, hx37, q13⟩ := bS q13
 obtain ⟨x38, hx38, q13⟩ := bS q13
 rcases x38 with x38 | x38
 · dsimp only at q13
   refine T.drawS drawsX (fun env36 => [.fn (.yield b0) [] [], dN s9.1, .val (.pointer (some ⟨blk y26, x30.toNat * 3, none⟩)), .val (.pointer (some ⟨blk y26, x30.toNat * 3, none⟩)), .val (.pointer (some ⟨blk y26, x30.toNat * 3, none⟩)), .nod [.sl 1 (List.map eNP x35.fKids), .sl 3 (List.map e_row_Row x35.fItems), dN x35.fN], .nod [.sl 1 (List.map eNP x35.fKids), .sl 3 (List.map e_row_Row x35.fItems), dN x35.fN], .nod [.sl 3 (List.map e_row_Row x35.fItems), dN x35.fN], .sl 3 (List.map e_row_Row x35.fItems), .val (.pointer (some ⟨blk y26, x30.toNat * 3, none⟩)), .val (.pointer (some ⟨blk y26, x30.toNat * 3, none⟩)), .val (.pointer (some ⟨blk y26, x30.toNat * 3 + 2, none⟩)), dN x31.fNext, .nod [.sl 5 (List.map e_cell_Cell x37.fCells), dN x37.fEnd, dT x37.fHidden], .agg [.sl 5 (List.map e_cell_Cell x37.fCells), dN x37.fEnd, dT x37.fHidden], dT false, dT true]) (fun D env36 => [(bif D 15 then .lp b0 .done (some (.ret)) [13, 14] rfA160_0 rfB160_0 [(3, .nod [.fn (.yield b5) [] []]), (2, (dP b4))] 40 else .lp b0 .ready none [13, 14] rfA160_0 rfB160_0 [(3, .nod [.fn (.yield b5) [] []]), (2, (dP b4))] 40), .var b1 [dN a0] 3, .var b2 [dN a1] 3, .var b3 [(eOP a2)] 118, .var b4 [.fn (.func 159) [] [dP b6, dP b7]] 239, .lp b5 .ready none [12] rfA56_0 rfB56_0 [(7, (dP b8))] 16, .var b6 [dP b9] 39, .var b7 [.sl 1 (lB a3)] 25, (bif D 15 then .var b8 [dN x38] 3 else .var b8 [dN s9.2.1] 3), .var b9 [.val v10] 142, .row v10 (lB a5) 1 5, .var (blk p2) [.val y26] 272, .row y26 (List.map e_wFr t25) 3 278]) [0, 0, 0, 4, 12, 28, 60, 124, 252, 0, 512, 1536, 3584, 8188, 16380, 32767, 65535] [0, 2, 5, 6, 8, 54] _ (by decide +kernel) (by decide +kernel) (fun _ => rfl) (fun _ => rfl) ?_ (fun _ => rfl) (fun _ => rfl) ?_
   rotate_left
   · intro env36
     show T X _ _ _
     refine T.condT rfl rfl ?_
     refine T.ret ?_
     obtain rfl := osi q13
     obtain rfl : _ = _ := i14
     obtain rfl := osi h0
     exact rP [0, 1, 2, 3, 4, 5, 6, 7, 8, 9, 10] [] [0, 1, 2, 3, 4, 5, 6, 7, 8, 9, 10] rfl rfl rfl undef ResL.nil rfl rfl rfl rfl
   iterate 5 refine aC ?_
   refine oT (.nod [.sl 1 (List.map eNP x35.fKids), .sl 3 (List.map e_row_Row x35.fItems), dN x35.fN]) (fun _ _ => OpR.cast (OpR.rowLoad0M (j := x30) e_wFr 12 hx31 rfl rfl rfl rfl) (congrArg eOP (osi hq32))) ?_
   iterate 6 refine aC ?_
   refine oT ((dN x31.fNext)) (fun _ _ => OpR.rowLoadM (j := x30) e_wFr 12 hx31 rfl rfl rfl rfl) ?_
   refine oT (.nod [.sl 5 (List.map e_cell_Cell x37.fCells), dN x37.fEnd, dT x37.fHidden]) (fun _ _ => OpR.indexM e_row_Row hx37 rfl rfl rfl rfl rfl) ?_
   refine aC ?_
   refine OpsS.cons' true ?_ (fun _ _ _ _ _ _ _ => rfl) ?_
   · intro D env36 hA
     exact OpS.yp [(15, false)] ⟨hA.me, trivial⟩ (Want.plain rfl) (OpR.callY [0, 4, 5, 6, 7, 8, 9, 10] rfl (find_having_2_r0_3_cx1 hx38) rfl rfl rfl (fun _ => rfl)) (fun x => rfl) (fun x => rfl)
   refine aC ?_
   exact trivial
 dsimp only at q13
 refine T.drawS drawsX (fun env36 => [.fn (.yield b0) [] [], dN s9.1, .val (.pointer (some ⟨blk y26, x30.toNat * 3, none⟩)), .val (.pointer (some ⟨blk y26, x30.toNat * 3, none⟩)), .val (.pointer (some ⟨blk y26, x30.toNat * 3, none⟩)), .nod [.sl 1 (List.map eNP x35.fKids), .sl 3 (List.map e_row_Row x35.fItems), dN x35.fN], .nod [.sl 1 (List.map eNP x35.fKids), .sl 3 (List.map e_row_Row x35.fItems), dN x35.fN], .nod [.sl 3 (List.map e_row_Row x35.fItems), dN x35.fN], .sl 3 (List.map e_row_Row x35.fItems), .val (.pointer (some ⟨blk y26, x30.toNat * 3, none⟩)), .val (.pointer (some ⟨blk y26, x30.toNat * 3, none⟩)), .val (.pointer (some ⟨blk y26, x30.toNat * 3 + 2, none⟩)), dN x31.fNext, .nod [.sl 5 (List.map e_cell_Cell x37.fCells), dN x37.fEnd, dT x37.fHidden], .agg [.sl 5 (List.map e_cell_Cell x37.fCells), dN x37.fEnd, dT x37.fHidden], dT true, dT false]) (fun D env36 => [.lp b0 .ready none [13, 14] rfA160_0 rfB160_0 [(3, .nod [.fn (.yield b5) [] []]), (2, (dP b4))] 40, .var b1 [dN a0] 3, .var b2 [dN a1] 3, .var b3 [(eOP a2)] 118, .var b4 [.fn (.func 159) [] [dP b6, dP b7]] 239, .lp b5 .ready none [12] rfA56_0 rfB56_0 [(7, (dP b8))] 16, .var b6 [dP b9] 39, .var b7 [.sl 1 (lB a3)] 25, (bif D 15 then .var b8 [dN x38] 3 else .var b8 [dN s9.2.1] 3), .var b9 [.val v10] 142, .row v10 (lB a5) 1 5, .var (blk p2) [.val y26] 272, .row y26 (List.map e_wFr t25) 3 278]) [0, 0, 0, 4, 12, 28, 60, 124, 252, 0, 512, 1536, 3584, 8188, 16380, 32767, 65535] [0, 2, 5, 6, 8, 54] _ (by decide +kernel) (by decide +kernel) (fun _ => rfl) (fun _ => rfl) ?_ (fun _ => rfl) (fun _ => rfl) ?_
 rotate_left
 · intro env36
   show T X _ _ _
   refine T.condF rfl rfl ?_
   refine aK rfl ?_
   refine T.region ?_
   iterate 3 refine aA rfl rfl ?_
   refine TL.op1 (OpR.rowLoadM (j := x30) e_wFr 12 hx31 rfl rfl rfl rfl) rfl ?_
   iterate 3 refine aA rfl rfl ?_
   refine TL.op0 (OpR.rowStoreM (j := x30) e_wFr (⟨x31.fN, x31.fFirst, w64 (x31.fNext + 1)⟩ : wFr) 12 hx31 rfl rfl rfl rfl rfl rfl rfl rfl rfl) ?_
   refine aN rfl ?_
   refine T.region ?_
   iterate 3 refine aA rfl rfl ?_
   refine TL.nil ?_
   obtain rfl := osi q13
   exact ⟨m11, Nat.lt_succ_self _, _, Gst.only [0, 2, 5, 6] rfl, y26, (w64 (s9.1 + 1), x38, (t25.set x30.toNat (⟨x31.fN, x31.fFirst, w64 (x31.fNext + 1)⟩ : wFr))), rfl, i14⟩
 iterate 5 refine aC ?_
 refine oT (.nod [.sl 1 (List.map eNP x35.fKids), .sl 3 (List.map e_row_Row x35.fItems), dN x35.fN]) (fun _ _ => OpR.cast (OpR.rowLoad0M (j := x30) e_wFr 12 hx31 rfl rfl rfl rfl) (congrArg eOP (osi hq32))) ?_
 iterate 6 refine aC ?_
 refine oT ((dN x31.fNext)) (fun _ _ => OpR.rowLoadM (j := x30) e_wFr 12 hx31 rfl rfl rfl rfl) ?_
 refine oT (.nod [.sl 5 (List.map e_cell_Cell x37.fCells), dN x37.fEnd, dT x37.fHidden]) (fun _ _ => OpR.indexM e_row_Row hx37 rfl rfl rfl rfl rfl) ?_
 refine aC ?_
 refine OpsS.cons' true ?_ (fun _ _ _ _ _ _ _ => rfl) ?_
 · intro D env36 hA
   exact OpS.yp [(15, false)] ⟨hA.me, trivial⟩ (Want.plain rfl) (OpR.callY [0, 4, 5, 6, 7, 8, 9, 10] rfl (find_having_2_r0_3_cx2 hx38) rfl rfl rfl (fun _ => rfl)) (fun x => rfl) (fun x => rfl)
 refine aC ?_
 exact trivial
theorem walk_Range_row_Row_1_3_cx1 {a0 : Int} {a1 : Int} {a2 : Option NP} {a3 : List UInt8} {a4 : Int} {a5 : List UInt8} {b0 : Nat} {b1 : Nat} {b2 : Nat} {b3 : Nat} {b4 : Nat} {b5 : Nat} {b6 : Nat} {b7 : Nat} {b8 : Nat} {b9 : Nat} {v10 : Value} {res : Int} (h0 : walk_Range_row_Row_1_3 a0 a1 a2 a3 a4 a5 = some (Sum.inl res)) : CallF X 194 [.fn (.yield b0) [] [], dP b1, dP b2, dP b3] [.lp b0 .ready none [13, 14] rfA160_0 rfB160_0 [(3, .nod [.fn (.yield b5) [] []]), (2, (dP b4))] 40, .var b1 [dN a0] 3, .var b2 [dN a1] 3, .var b3 [(eOP a2)] 118, .var b4 [.fn (.func 159) [] [dP b6, dP b7]] 239, .lp b5 .ready none [12] rfA56_0 rfB56_0 [(7, (dP b8))] 16, .var b6 [dP b9] 39, .var b7 [.sl 1 (lB a3)] 25, .var b8 [dN a4] 3, .var b9 [.val v10] 142, .row v10 (lB a5) 1 5] (fun x => .tup []) (fun x => [.lp b0 .ready none [13, 14] rfA160_0 rfB160_0 [(3, .nod [.fn (.yield b5) [] []]), (2, (dP b4))] 40, .var b1 [dN a0] 3, .var b2 [dN a1] 3, .var b3 [(eOP a2)] 118, .var b4 [.fn (.func 159) [] [dP b6, dP b7]] 239, .lp b5 .ready none [12] rfA56_0 rfB56_0 [(7, (dP b8))] 16, .var b6 [dP b9] 39, .var b7 [.sl 1 (lB a3)] 25, .var b8 [dN res] 3, .var b9 [.val v10] 142, .row v10 (lB a5) 1 5]) := walk_Range_row_Row_1_3_c h0
theorem walk_Range_row_Row_1_3_cx2 {a0 : Int} {a1 : Int} {a2 : Option NP} {a3 : List UInt8} {a4 : Int} {a5 : List UInt8} {b0 : Nat} {b1 : Nat} {b2 : Nat} {b3 : Nat} {b4 : Nat} {b5 : Nat} {b6 : Nat} {b7 : Nat} {b8 : Nat} {b9 : Nat} {v10 : Value} {res : Int} (h0 : walk_Range_row_Row_1_3 a0 a1 a2 a3 a4 a5 = some (Sum.inr res)) : CallF X 194 [.fn (.yield b0) [] [], dP b1, dP b2, dP b3] [.lp b0 .ready none [13, 14] rfA160_0 rfB160_0 [(3, .nod [.fn (.yield b5) [] []]), (2, (dP b4))] 40, .var b1 [dN a0] 3, .var b2 [dN a1] 3, .var b3 [(eOP a2)] 118, .var b4 [.fn (.func 159) [] [dP b6, dP b7]] 239, .lp b5 .ready none [12] rfA56_0 rfB56_0 [(7, (dP b8))] 16, .var b6 [dP b9] 39, .var b7 [.sl 1 (lB a3)] 25, .var b8 [dN a4] 3, .var b9 [.val v10] 142, .row v10 (lB a5) 1 5] (fun x => .tup []) (fun x => [.lp b0 .done (some (.ret)) [13, 14] rfA160_0 rfB160_0 [(3, .nod [.fn (.yield b5) [] []]), (2, (dP b4))] 40, .var b1 [dN a0] 3, .var b2 [dN a1] 3, .var b3 [(eOP a2)] 118, .var b4 [.fn (.func 159) [] [dP b6, dP b7]] 239, .lp b5 .ready none [12] rfA56_0 rfB56_0 [(7, (dP b8))] 16, .var b6 [dP b9] 39, .var b7 [.sl 1 (lB a3)] 25, .var b8 [dN res] 3, .var b9 [.val v10] 142, .row v10 (lB a5) 1 5]) := walk_Range_row_Row_1_3_c h0
noncomputable def find_having_2_3 (a0 : Option NP) (a1 : Bool) (a2 : Int) (a3 : Int) (a4 : List UInt8) (a5 : List UInt8) : Option Int :=
  bnd (grid_Grid_Len (⟨(⟨a0⟩ : tTr), a1, a2⟩ : grid_Grid)) fun x2 =>
  bnd (walk_Range_row_Row (⟨a0⟩ : tTr) 0 x2) fun x3 =>
  bnd (walk_Range_row_Row_1_3 x3.1 x3.2.1 x3.2.2 a4 a3 a5) fun x5 =>
  match x5 with
  | .inl x5 =>
      some x5
  | .inr x5 =>
      some x5
theorem find_having_2_3_c {a0 : Option NP} {a1 : Bool} {a2 : Int} {a3 : Int} {a4 : List UInt8} {a5 : List UInt8} {b0 : Nat} {b1 : Nat} {b2 : Nat} {b3 : Nat} {b4 : Nat} {b5 : Nat} {b6 : Nat} {v7 : Value} {res : Int} (h0 : find_having_2_3 a0 a1 a2 a3 a4 a5 = some res) : CallF X 160 [.fn (.yield b0) [] [], dP b1, dP b2] [.lp b0 .ready none [12] rfA56_0 rfB56_0 [(7, (dP b3))] 16, .var b1 [(eOP a0), dT a1, dN a2] 120, .var b2 [.fn (.func 159) [] [dP b4, dP b5]] 239, .var b3 [dN a3] 3, .var b4 [dP b6] 39, .var b5 [.sl 1 (lB a4)] 25, .var b6 [.val v7] 142, .row v7 (lB a5) 1 5] (fun x => .tup []) (fun x => [.lp b0 .ready none [12] rfA56_0 rfB56_0 [(7, (dP b3))] 16, .var b1 [(eOP a0), dT a1, dN a2] 120, .var b2 [.fn (.func 159) [] [dP b4, dP b5]] 239, .var b3 [dN res] 3, .var b4 [dP b6] 39, .var b5 [.sl 1 (lB a4)] 25, .var b6 [.val v7] 142, .row v7 (lB a5) 1 5]) := by
 unfold find_having_2_3 at h0
 refine CallF.mkG (X := X) rfl Try.func160 rfl rfl Try.ntmps160 rfl rfl ?_
 refine aS ?_
 refine TL.op1 (OpR.boxImm rfl rfl) rfl ?_
 refine aN rfl ?_
 refine T.seq ?_
 obtain ⟨x2, hx2, h0⟩ := bS h0
 obtain ⟨x3, hx3, h0⟩ := bS h0
 refine T.drawS drawsX (fun env1 => [dP b1, .agg [(eOP a0)], .agg [(eOP a0), dT a1, dN a2], dN x2, .fn (.func 194) [] [dP (blk (vn (env1 4) 0)), dP (blk (vn (env1 4) 1)), dP (blk (vn (env1 4) 2))]]) (fun D env1 => [.lp b0 .ready none [12] rfA56_0 rfB56_0 [(7, (dP b3))] 16, .var b1 [(eOP a0), dT a1, dN a2] 120, .var b2 [.fn (.func 159) [] [dP b4, dP b5]] 239, .var b3 [dN a3] 3, .var b4 [dP b6] 39, .var b5 [.sl 1 (lB a4)] 25, .var b6 [.val v7] 142, .row v7 (lB a5) 1 5] ++ (bif D 4 then [.var (blk (vn (env1 4) 0)) [dN x3.1] 3] else []) ++ (bif D 4 then [.var (blk (vn (env1 4) 1)) [dN x3.2.1] 3] else []) ++ (bif D 4 then [.var (blk (vn (env1 4) 2)) [(eOP x3.2.2)] 118] else [])) [0, 1, 0, 4, 15] [2, 3, 12] _ (by decide +kernel) (by decide +kernel) (fun _ => rfl) (fun _ => rfl) ?_ (fun _ => rfl) (fun _ => rfl) ?_
 · refine aC ?_
   refine oT (.agg [(eOP a0)]) (fun _ _ => OpR.loadPtr 1 rfl rfl rfl rfl) ?_
   refine oT (.agg [(eOP a0), dT a1, dN a2]) (fun _ _ => OpR.loadPtr 1 rfl rfl rfl rfl) ?_
   refine oT ((dN x2)) (fun _ _ => OpR.call0 fn104 (grid_Grid_Len_c hx2) rfl) ?_
   refine OpsS.cons' true ?_ (fun D hA env1 x j hj hD => match j, hj, hD with | 0, _, _ => rfl | 1, _, _ => rfl | 2, _, _ => rfl | 3, _, _ => rfl | 4, hj, _ => absurd rfl hj | _ + 5, _, _ => rfl) ?_
   · intro D env1 hA
     exact OpS.yp [(4, false)] ⟨hA.me, trivial⟩ (Want.plain rfl) (OpR.call [] fn161 (walk_Range_row_Row_c hx3) rfl rfl rfl (fun _ => rfl)) (fun x => rfl) (fun x => rfl)
   exact trivial
 intro env1
 show T X _ _ _
 refine T.block ?_
 obtain ⟨x5, hx5, h0⟩ := bS h0
 rcases x5 with x5 | x5
 · dsimp only at h0
   refine T.rangeN (A := rfA160_0) (B := rfB160_0) (ow1 := fun w6 => [.lp b0 .ready none [12] rfA56_0 rfB56_0 [(7, (dP b3))] 16, .var b1 [(eOP a0), dT a1, dN a2] 120, .var b2 [.fn (.func 159) [] [dP b4, dP b5]] 239, .var b3 [dN x5] 3, .var b4 [dP b6] 39, .var b5 [.sl 1 (lB a4)] 25, .var b6 [.val v7] 142, .row v7 (lB a5) 1 5, .var (blk (vn (env1 4) 0)) [dN x3.1] 3, .var (blk (vn (env1 4) 1)) [dN x3.2.1] 3, .var (blk (vn (env1 4) 2)) [(eOP x3.2.2)] 118]) [2, 3] [8, 9, 10, 2, 0, 4, 5, 3, 6, 7] (.inl rfl) rfl rfl rfl rfl rfl fn194 rfl rfl (fun l4 => (walk_Range_row_Row_1_3_cx1 hx5)) (fun _ => by kernel_rfl) (fun w6 => ?_)
   obtain rfl := osi h0
   exact PostG.finP (ks := [0, 1, 2, 3, 4, 5, 6, 7]) (gP [] [0, 1, 2, 3, 4, 5, 6, 7] rfl rfl rfl) undef ResL.nil rfl rfl rfl rfl
 dsimp only at h0
 refine T.rangeJ (A := rfA160_0) (B := rfB160_0) (ow1 := fun w7 => [.lp b0 .ready none [12] rfA56_0 rfB56_0 [(7, (dP b3))] 16, .var b1 [(eOP a0), dT a1, dN a2] 120, .var b2 [.fn (.func 159) [] [dP b4, dP b5]] 239, .var b3 [dN x5] 3, .var b4 [dP b6] 39, .var b5 [.sl 1 (lB a4)] 25, .var b6 [.val v7] 142, .row v7 (lB a5) 1 5, .var (blk (vn (env1 4) 0)) [dN x3.1] 3, .var (blk (vn (env1 4) 1)) [dN x3.2.1] 3, .var (blk (vn (env1 4) 2)) [(eOP x3.2.2)] 118]) (.ret) [2, 3] [8, 9, 10, 2, 0, 4, 5, 3, 6, 7] (.inl rfl) rfl rfl rfl rfl rfl fn194 rfl rfl (fun l4 => (walk_Range_row_Row_1_3_cx2 hx5)) (fun _ => by kernel_rfl) (fun w7 => ?_)
 refine T.ret ?_
 obtain rfl := osi h0
 exact rP [0, 1, 2, 3, 4, 5, 6, 7] [] [0, 1, 2, 3, 4, 5, 6, 7] rfl rfl rfl undef ResL.nil rfl rfl rfl rfl
noncomputable def find_Count (a0 : grid_Grid) (a1 : List UInt8) (a2 : List UInt8) : Option Int :=
  bnd (find_having a0 a1 a2) fun x2 =>
  bnd (find_having_2_3 x2.1 x2.2.1 x2.2.2.1 0 x2.2.2.2 a2) fun x5 =>
  some x5
theorem find_Count_c {a0 : grid_Grid} {a1 : List UInt8} {a2 : List UInt8} {b0 : Nat} {v1 : Value} {res : Int} (h0 : find_Count a0 a1 a2 = some res) : CallF X 56 [.agg [(eOP a0.fRows.fRoot), dT a0.fTail, dN a0.fEnd], dP b0, .sl 1 (lB a1)] [.var b0 [.val v1] 142, .row v1 (lB a2) 1 5] (fun x => (dN res)) (fun x => [.var b0 [.val v1] 142, .row v1 (lB a2) 1 5]) := by
 unfold find_Count at h0
 refine CallF.mkG (X := X) rfl Try.func56 rfl rfl Try.ntmps56 rfl rfl ?_
 refine aS ?_
 refine TL.op1 (OpR.boxImm rfl rfl) rfl ?_
 refine aA rfl rfl ?_
 refine aN rfl ?_
 refine aS ?_
 refine TL.op (OpR.alloc rfl rfl (fun _ => rfl)) rfl (fun p1 => ?_)
 refine TL.op0 (OpR.store 2 rfl rfl rfl rfl rfl rfl rfl rfl) ?_
 refine aN rfl ?_
 refine T.seq ?_
 refine aS ?_
 iterate 3 refine aA rfl rfl ?_
 obtain ⟨x2, hx2, h0⟩ := bS h0
 refine TL.op (OpR.call [0, 1] fn108 (find_having_c hx2) rfl rfl rfl (fun _ => rfl)) rfl (fun w3 => ?_)
 refine aN rfl ?_
 refine T.block ?_
 obtain ⟨x5, hx5, h0⟩ := bS h0
 refine T.rangeN (A := rfA56_0) (B := rfB56_0) [7] [3, 4, 2, 5, 6, 0, 1] (.inl rfl) rfl rfl rfl rfl rfl fn160 rfl rfl (fun l4 => (find_having_2_3_c hx5)) (fun _ => rfl) (fun w6 => ?_)
 show T X _ _ _
 refine aS ?_
 refine TL.op1 (OpR.loadPtr 2 rfl rfl rfl rfl) rfl ?_
 refine aA rfl rfl ?_
 refine aN rfl ?_
 refine T.ret ?_
 obtain rfl := osi h0
 exact rP [0, 1] [6] [0, 1] rfl rfl rfl undef (cT rfl ResL.nil) rfl rfl rfl rfl
noncomputable def find_spot_behind (a0 : find_spot) (a1 : find_spot) : Option Bool :=
  bnd (if a0.fR > a1.fR then
    some true
  else
    if a0.fR = a1.fR then
      some (decide (a0.fC > a1.fC))
    else
      some false : Option Bool) fun t1 =>
  some t1
theorem find_spot_behind_c {a0 : find_spot} {a1 : find_spot} {res : Bool} (h0 : find_spot_behind a0 a1 = some res) : CallF X 109 [.agg [dN a0.fR, dN a0.fC], .agg [dN a1.fR, dN a1.fC]] [] (fun x => (dT res)) (fun x => []) := by
 unfold find_spot_behind at h0
 refine CallF.mkG (X := X) rfl Try.func109 rfl rfl Try.ntmps109 rfl rfl ?_
 refine aS ?_
 refine TL.op1 (OpR.boxImm rfl rfl) rfl ?_
 refine TL.op1 (OpR.boxImm rfl rfl) rfl ?_
 refine aA rfl rfl ?_
 refine aN rfl ?_
 refine T.seq ?_
 obtain ⟨t1, ht1, h0⟩ := bS h0
 refine T.cutC (fun S' => S' = ⟨[(4, (dT t1))], [], 24⟩) (fun _ h => h) ?_ ?_
 rotate_left
 · rintro _ rfl
   show T X _ _ _
   refine T.ret ?_
   obtain rfl := osi h0
   exact rO [] [4] rfl undef (cT rfl ResL.nil) rfl rfl rfl rfl
 refine T.region ?_
 iterate 6 refine aA rfl rfl ?_
 rcases ite_some ht1 with ⟨c2, ht1⟩ | ⟨c2, ht1⟩
 · refine TL.off rfl rfl rfl rfl (eT c2) rfl rfl ?_
   refine TL.off rfl rfl rfl rfl (eT c2) rfl rfl ?_
   refine TL.off rfl rfl rfl rfl (eT c2) rfl rfl ?_
   refine TL.off rfl rfl rfl rfl (eT c2) rfl rfl ?_
   refine TL.off rfl rfl rfl rfl (eT c2) rfl rfl ?_
   refine TL.off rfl rfl rfl rfl (eT c2) rfl rfl ?_
   refine TL.offU rfl rfl rfl rfl rfl rfl ?_
   refine TL.offU rfl rfl rfl rfl rfl rfl ?_
   refine TL.offU rfl rfl rfl rfl rfl rfl ?_
   refine TL.offU rfl rfl rfl rfl rfl rfl ?_
   refine TL.offU rfl rfl rfl rfl rfl rfl ?_
   refine TL.off rfl rfl rfl rfl (eT c2) rfl rfl ?_
   refine TL.op1 (OpR.pickT rfl (eT c2) rfl) rfl ?_
   refine aA rfl rfl ?_
   refine TL.nil ?_
   obtain rfl := osi ht1
   exact ⟨_, Gst.only [4] rfl, rfl⟩
 refine TL.on rfl rfl rfl rfl (eF c2) ?_
 refine aA rfl rfl ?_
 refine TL.on rfl rfl rfl rfl (eF c2) ?_
 refine aA rfl rfl ?_
 refine TL.on rfl rfl rfl rfl (eF c2) ?_
 refine aA rfl rfl ?_
 refine TL.on rfl rfl rfl rfl (eF c2) ?_
 refine aA rfl rfl ?_
 refine TL.on rfl rfl rfl rfl (eF c2) ?_
 refine aA rfl rfl ?_
 refine TL.on rfl rfl rfl rfl (eF c2) ?_
 refine aA rfl rfl ?_
 rcases ite_some ht1 with ⟨c3, ht1⟩ | ⟨c3, ht1⟩
 rotate_left
 · refine TL.off rfl rfl rfl rfl (beq_eq_false_iff_ne.2 c3) rfl rfl ?_
   refine TL.off rfl rfl rfl rfl (beq_eq_false_iff_ne.2 c3) rfl rfl ?_
   refine TL.off rfl rfl rfl rfl (beq_eq_false_iff_ne.2 c3) rfl rfl ?_
   refine TL.off rfl rfl rfl rfl (beq_eq_false_iff_ne.2 c3) rfl rfl ?_
   refine TL.off rfl rfl rfl rfl (beq_eq_false_iff_ne.2 c3) rfl rfl ?_
   refine TL.on rfl rfl rfl rfl (eF c2) ?_
   refine TL.op1 (OpR.pickF rfl (beq_eq_false_iff_ne.2 c3) rfl) rfl ?_
   refine TL.op1 (OpR.pickF rfl (eF c2) rfl) rfl ?_
   refine aA rfl rfl ?_
   refine TL.nil ?_
   obtain rfl := osi ht1
   exact ⟨_, Gst.only [4] rfl, rfl⟩
 refine TL.on rfl rfl rfl rfl (beq_iff_eq.2 c3) ?_
 refine aA rfl rfl ?_
 refine TL.on rfl rfl rfl rfl (beq_iff_eq.2 c3) ?_
 refine aA rfl rfl ?_
 refine TL.on rfl rfl rfl rfl (beq_iff_eq.2 c3) ?_
 refine aA rfl rfl ?_
 refine TL.on rfl rfl rfl rfl (beq_iff_eq.2 c3) ?_
 refine aA rfl rfl ?_
 refine TL.on rfl rfl rfl rfl (beq_iff_eq.2 c3) ?_
 refine aA rfl rfl ?_
 refine TL.on rfl rfl rfl rfl (eF c2) ?_
 refine TL.op1 (OpR.pickT rfl (beq_iff_eq.2 c3) rfl) rfl ?_
 refine TL.op1 (OpR.pickF rfl (eF c2) rfl) rfl ?_
 refine aA rfl rfl ?_
 refine TL.nil ?_
 obtain rfl := osi ht1
 exact ⟨_, Gst.only [4] rfl, rfl⟩
noncomputable def find_Next_r0 (a0 : find_spot) (a1 : Int) (a2 : Int) (a3 : Int) (a4 : Int) (a5 : Bool) (a6 : Int) (a7 : Int) (a8 : Bool) : Option ((Int × Int × Bool) ⊕ (Int × Int × Bool)) :=
  bnd (find_spot_behind a0 (⟨a1, a2⟩ : find_spot)) fun x32 =>
  if x32 = true then
    some (Sum.inl (a0.fR, a0.fC, true))
  else
    if a8 = true then
      some (Sum.inr (a6, a7, a8))
    else
      some (Sum.inr (a0.fR, a0.fC, true))
theorem find_Next_r0_c {a0 : find_spot} {a1 : Int} {a2 : Int} {a3 : Int} {a4 : Int} {a5 : Bool} {a6 : Int} {a7 : Int} {a8 : Bool} {b0 : Nat} {b1 : Nat} {b2 : Nat} {b3 : Nat} {b4 : Nat} {b5 : Nat} {res : (Int × Int × Bool) ⊕ (Int × Int × Bool)} (h0 : find_Next_r0 a0 a1 a2 a3 a4 a5 a6 a7 a8 = some res) : RoundF X b0 [.agg [dN a0.fR, dN a0.fC]] [.lp b0 .ready none [20] rfA57_0 rfB57_0 [(14, (dP b5)), (13, (dP b4)), (12, (dP b3)), (11, (dP b2)), (10, (dP b1)), (9, .nod [dN a2]), (8, .nod [dN a1])] 38, .var b1 [dN a3] 3, .var b2 [dN a4] 3, .var b3 [dT a5] 4, .var b4 [dN a6, dN a7] 202, .var b5 [dT a8] 4] (fun x => (match res with | .inl res => (dT false) | .inr res => (dT true))) (fun x => (match res with | .inl res => [.lp b0 .done (some (.ret)) [20] rfA57_0 rfB57_0 [(14, (dP b5)), (13, (dP b4)), (12, (dP b3)), (11, (dP b2)), (10, (dP b1)), (9, .nod [dN a2]), (8, .nod [dN a1])] 38, .var b1 [dN res.1] 3, .var b2 [dN res.2.1] 3, .var b3 [dT res.2.2] 4, .var b4 [dN a6, dN a7] 202, .var b5 [dT a8] 4] | .inr res => [.lp b0 .ready none [20] rfA57_0 rfB57_0 [(14, (dP b5)), (13, (dP b4)), (12, (dP b3)), (11, (dP b2)), (10, (dP b1)), (9, .nod [dN a2]), (8, .nod [dN a1])] 38, .var b1 [dN a3] 3, .var b2 [dN a4] 3, .var b3 [dT a5] 4, .var b4 [dN res.1, dN res.2.1] 202, .var b5 [dT res.2.2] 4])) := by
 unfold find_Next_r0 at h0
 refine RoundF.mk (X := X) rfl rfl rfl ?_
 refine T.region ?_
 refine TL.op (OpR.alloc rfl rfl (fun _ => rfl)) rfl (fun p31 => ?_)
 refine TL.op0 (OpR.store 6 rfl rfl rfl rfl rfl rfl rfl rfl) ?_
 refine TL.nil ?_
 refine RoundA.mk ?_
 refine T.block ?_
 refine T.seq ?_
 refine aS ?_
 refine TL.op1 (OpR.loadPtr 6 rfl rfl rfl rfl) rfl ?_
 iterate 2 refine aA rfl rfl ?_
 refine TL.op1 (OpR.build rfl rfl rfl rfl rfl) rfl ?_
 obtain ⟨x32, hx32, h0⟩ := bS h0
 refine TL.op1 (OpR.call0 fn109 (find_spot_behind_c hx32) rfl) rfl ?_
 refine TL.nil ?_
 show T (X.inR b0) _ _ _
 rcases ite_some h0 with ⟨c33, h0⟩ | ⟨c33, h0⟩
 rotate_left
 · refine T.condF rfl (eq_false_of_ne_true c33) ?_
   refine T.skip ?_
   show T (X.inR b0) _ _ _
   refine aS ?_
   refine TL.op1 (OpR.loadPtr 5 rfl rfl rfl rfl) rfl ?_
   refine aA rfl rfl ?_
   refine TL.nil ?_
   show T (X.inR b0) _ _ _
   rcases ite_some h0 with ⟨c35, h0⟩ | ⟨c35, h0⟩
   · refine T.condF rfl (not_t (c35)) ?_
     refine T.skip ?_
     obtain rfl := osi h0
     exact RoundG.mk (ks := [0, 1, 2, 3, 4, 5]) (gP [] [0, 1, 2, 3, 4, 5] rfl rfl rfl) undef rfl rfl rfl rfl rfl
   refine T.condT rfl (not_f (eq_false_of_ne_true c35)) ?_
   refine T.region ?_
   refine TL.op1 (OpR.loadPtr 6 rfl rfl rfl rfl) rfl ?_
   refine TL.op0 (OpR.store 4 rfl rfl rfl rfl rfl rfl rfl rfl) ?_
   refine TL.op0 (OpR.store 5 rfl rfl rfl rfl rfl rfl rfl rfl) ?_
   refine TL.nil ?_
   obtain rfl := osi h0
   exact RoundG.mk (ks := [0, 1, 2, 3, 4, 5]) (gP [] [0, 1, 2, 3, 4, 5] rfl rfl rfl) undef rfl rfl rfl rfl rfl
 refine T.condT rfl (c33) ?_
 refine T.seq ?_
 refine T.drawS drawsX (fun env34 => [dP (blk p31), dN a0.fR, .val (.pointer (some ⟨(blk p31), 1, none⟩)), dN a0.fC, .dead, .dead, .dead]) (fun D env34 => [.lp b0 .busy none [20] rfA57_0 rfB57_0 [(14, (dP b5)), (13, (dP b4)), (12, (dP b3)), (11, (dP b2)), (10, (dP b1)), (9, .nod [dN a2]), (8, .nod [dN a1])] 38, (bif D 4 then .var b1 [dN a0.fR] 3 else .var b1 [dN a3] 3), (bif D 5 then .var b2 [dN a0.fC] 3 else .var b2 [dN a4] 3), (bif D 6 then .var b3 [dT true] 4 else .var b3 [dT a5] 4), .var b4 [dN a6, dN a7] 202, .var b5 [dT a8] 4, .var (blk p31) [dN a0.fR, dN a0.fC] 202]) [0, 1, 0, 4, 3, 31, 63] [13, 14, 15] _ (by decide +kernel) (by decide +kernel) (fun _ => rfl) (fun _ => rfl) ?_ (fun _ => rfl) (fun _ => rfl) ?_
 rotate_left
 · intro env34
   show T (X.inR b0) _ _ _
   refine T.ret ?_
   obtain rfl := osi h0
   exact RoundG.mk (ks := [0, 1, 2, 3, 4, 5]) (gP [] [0, 1, 2, 3, 4, 5] rfl rfl rfl) undef rfl rfl rfl rfl rfl
 refine aC ?_
 refine oT ((dN a0.fR)) (fun _ _ => OpR.loadPtr 6 rfl rfl rfl rfl) ?_
 refine aC ?_
 refine oT ((dN a0.fC)) (fun _ _ => OpR.loadPtr 6 rfl rfl rfl rfl) ?_
 refine OpsS.cons' true ?_ (fun _ _ _ _ _ _ _ => rfl) ?_
 · intro D env34 hA
   have e5 : D 5 = false := hA.no 5 _ rfl rfl
   have e6 : D 6 = false := hA.no 6 _ rfl rfl
   exact OpS.yp [(5, false), (6, false), (4, false)] ⟨e5, e6, hA.me, trivial⟩ (Want.plain rfl) (OpR.store 1 rfl rfl rfl rfl rfl rfl rfl rfl) (fun x => rfl) (fun x => rfl)
 refine OpsS.cons' true ?_ (fun _ _ _ _ _ _ _ => rfl) ?_
 · intro D env34 hA
   have e4 : D 4 = true := hA.yes 4 _ rfl rfl
   have e6 : D 6 = false := hA.no 6 _ rfl rfl
   exact OpS.yp [(4, true), (6, false), (5, false)] ⟨e4, e6, hA.me, trivial⟩ (Want.plain rfl) (OpR.store 2 rfl rfl rfl rfl rfl rfl rfl rfl) (fun x => rfl) (fun x => rfl)
 refine OpsS.cons' true ?_ (fun _ _ _ _ _ _ _ => rfl) ?_
 · intro D env34 hA
   have e4 : D 4 = true := hA.yes 4 _ rfl rfl
   have e5 : D 5 = true := hA.yes 5 _ rfl rfl
   exact OpS.yp [(4, true), (5, true), (6, false)] ⟨e4, e5, hA.me, trivial⟩ (Want.plain rfl) (OpR.store 3 rfl rfl rfl rfl rfl rfl rfl rfl) (fun x => rfl) (fun x => rfl)
 exact trivial
theorem find_Next_r0_cx1 {a0 : find_spot} {a1 : Int} {a2 : Int} {a3 : Int} {a4 : Int} {a5 : Bool} {a6 : Int} {a7 : Int} {a8 : Bool} {b0 : Nat} {b1 : Nat} {b2 : Nat} {b3 : Nat} {b4 : Nat} {b5 : Nat} {res : Int × Int × Bool} (h0 : find_Next_r0 a0 a1 a2 a3 a4 a5 a6 a7 a8 = some (Sum.inl res)) : RoundF X b0 [.agg [dN a0.fR, dN a0.fC]] [.lp b0 .ready none [20] rfA57_0 rfB57_0 [(14, (dP b5)), (13, (dP b4)), (12, (dP b3)), (11, (dP b2)), (10, (dP b1)), (9, .nod [dN a2]), (8, .nod [dN a1])] 38, .var b1 [dN a3] 3, .var b2 [dN a4] 3, .var b3 [dT a5] 4, .var b4 [dN a6, dN a7] 202, .var b5 [dT a8] 4] (fun x => (dT false)) (fun x => [.lp b0 .done (some (.ret)) [20] rfA57_0 rfB57_0 [(14, (dP b5)), (13, (dP b4)), (12, (dP b3)), (11, (dP b2)), (10, (dP b1)), (9, .nod [dN a2]), (8, .nod [dN a1])] 38, .var b1 [dN res.1] 3, .var b2 [dN res.2.1] 3, .var b3 [dT res.2.2] 4, .var b4 [dN a6, dN a7] 202, .var b5 [dT a8] 4]) := find_Next_r0_c h0
theorem find_Next_r0_cx2 {a0 : find_spot} {a1 : Int} {a2 : Int} {a3 : Int} {a4 : Int} {a5 : Bool} {a6 : Int} {a7 : Int} {a8 : Bool} {b0 : Nat} {b1 : Nat} {b2 : Nat} {b3 : Nat} {b4 : Nat} {b5 : Nat} {res : Int × Int × Bool} (h0 : find_Next_r0 a0 a1 a2 a3 a4 a5 a6 a7 a8 = some (Sum.inr res)) : RoundF X b0 [.agg [dN a0.fR, dN a0.fC]] [.lp b0 .ready none [20] rfA57_0 rfB57_0 [(14, (dP b5)), (13, (dP b4)), (12, (dP b3)), (11, (dP b2)), (10, (dP b1)), (9, .nod [dN a2]), (8, .nod [dN a1])] 38, .var b1 [dN a3] 3, .var b2 [dN a4] 3, .var b3 [dT a5] 4, .var b4 [dN a6, dN a7] 202, .var b5 [dT a8] 4] (fun x => (dT true)) (fun x => [.lp b0 .ready none [20] rfA57_0 rfB57_0 [(14, (dP b5)), (13, (dP b4)), (12, (dP b3)), (11, (dP b2)), (10, (dP b1)), (9, .nod [dN a2]), (8, .nod [dN a1])] 38, .var b1 [dN a3] 3, .var b2 [dN a4] 3, .var b3 [dT a5] 4, .var b4 [dN res.1, dN res.2.1] 202, .var b5 [dT res.2.2] 4]) := find_Next_r0_c h0
noncomputable def find_having_2_r0.l1 (a0 : Int) (a1 : row_Row) (a2 : Int) (a3 : Int) (a4 : List UInt8) (a5 : Int) (a6 : Int) (a7 : Bool) (a11 : List UInt8) (s34 : Int × Int × Int × Bool) : Option (Lp (Int × Int × Int × Bool) (Ex (Int × Int × Bool) ((Int × Int × Bool × Int × Int × Bool) ⊕ (Int × Int × Bool)))) :=
  if s34.1 < (a1.fCells.length : Int) then
    bnd (bnd (idx a1.fCells s34.1) fun x45 =>
    if a1.fHidden = true then
      some (Ex.brk (s34.2.1, s34.2.2.1, s34.2.2.2))
    else
      bnd (find_having_1 x45 a4 a11) fun x48 =>
      if x48 = true then
        bnd (find_Next_r0 (⟨a0, s34.1⟩ : find_spot) a2 a3 a5 a6 a7 s34.2.1 s34.2.2.1 s34.2.2.2) fun x50 =>
        match x50 with
        | .inl x50 =>
            some (Ex.ret (Sum.inl (x50.1, x50.2.1, x50.2.2, s34.2.1, s34.2.2.1, s34.2.2.2)))
        | .inr x50 =>
            some (Ex.brk (x50.1, x50.2.1, x50.2.2))
      else
        some (Ex.brk (s34.2.1, s34.2.2.1, s34.2.2.2)) : Option (Ex (Int × Int × Bool) ((Int × Int × Bool × Int × Int × Bool) ⊕ (Int × Int × Bool)))) fun t43 => match t43 with
      | .brk u44 =>
        some (Lp.next (w64 (s34.1 + 1), u44.1, u44.2.1, u44.2.2))
      | .ret u44 => some (Lp.done (Ex.ret u44))
  else
    some (Lp.done (Ex.brk (s34.2.1, s34.2.2.1, s34.2.2.2)))
noncomputable def find_having_2_r0 (a0 : Int) (a1 : row_Row) (a2 : Int) (a3 : Int) (a4 : List UInt8) (a5 : Int) (a6 : Int) (a7 : Bool) (a8 : Int) (a9 : Int) (a10 : Bool) (a11 : List UInt8) : Option ((Int × Int × Bool × Int × Int × Bool) ⊕ (Int × Int × Bool)) :=
  bnd (loop (find_having_2_r0.l1 a0 a1 a2 a3 a4 a5 a6 a7 a11) (0, a8, a9, a10) : Option (Ex (Int × Int × Bool) ((Int × Int × Bool × Int × Int × Bool) ⊕ (Int × Int × Bool)))) fun t32 => match t32 with
    | .brk u33 =>
      some (Sum.inr (u33.1, u33.2.1, u33.2.2))
    | .ret u33 => some u33
theorem find_having_2_r0_c {a0 : Int} {a1 : row_Row} {a2 : Int} {a3 : Int} {a4 : List UInt8} {a5 : Int} {a6 : Int} {a7 : Bool} {a8 : Int} {a9 : Int} {a10 : Bool} {a11 : List UInt8} {b0 : Nat} {b1 : Nat} {b2 : Nat} {b3 : Nat} {b4 : Nat} {b5 : Nat} {b6 : Nat} {b7 : Nat} {b8 : Nat} {b9 : Nat} {b10 : Nat} {v11 : Value} {res : (Int × Int × Bool × Int × Int × Bool) ⊕ (Int × Int × Bool)} (h0 : find_having_2_r0 a0 a1 a2 a3 a4 a5 a6 a7 a8 a9 a10 a11 = some res) : RoundF X b0 [dN a0, .agg [.sl 5 (List.map e_cell_Cell a1.fCells), dN a1.fEnd, dT a1.fHidden]] [.lp b0 .ready none [13, 14] rfA160_0 rfB160_0 [(3, .nod [.fn (.yield b2) [] []]), (2, (dP b1))] 40, .var b1 [.fn (.func 159) [] [dP b3, dP b4]] 239, .lp b2 .ready none [20] rfA57_0 rfB57_0 [(14, (dP b9)), (13, (dP b8)), (12, (dP b7)), (11, (dP b6)), (10, (dP b5)), (9, .nod [dN a3]), (8, .nod [dN a2])] 38, .var b3 [dP b10] 39, .var b4 [.sl 1 (lB a4)] 25, .var b5 [dN a5] 3, .var b6 [dN a6] 3, .var b7 [dT a7] 4, .var b8 [dN a8, dN a9] 202, .var b9 [dT a10] 4, .var b10 [.val v11] 142, .row v11 (lB a11) 1 5] (fun x => (match res with | .inl res => (dT false) | .inr res => (dT true))) (fun x => (match res with | .inl res => [.lp b0 .done (some (.ret)) [13, 14] rfA160_0 rfB160_0 [(3, .nod [.fn (.yield b2) [] []]), (2, (dP b1))] 40, .var b1 [.fn (.func 159) [] [dP b3, dP b4]] 239, .lp b2 .done (some (.ret)) [20] rfA57_0 rfB57_0 [(14, (dP b9)), (13, (dP b8)), (12, (dP b7)), (11, (dP b6)), (10, (dP b5)), (9, .nod [dN a3]), (8, .nod [dN a2])] 38, .var b3 [dP b10] 39, .var b4 [.sl 1 (lB a4)] 25, .var b5 [dN res.1] 3, .var b6 [dN res.2.1] 3, .var b7 [dT res.2.2.1] 4, .var b8 [dN res.2.2.2.1, dN res.2.2.2.2.1] 202, .var b9 [dT res.2.2.2.2.2] 4, .var b10 [.val v11] 142, .row v11 (lB a11) 1 5] | .inr res => [.lp b0 .ready none [13, 14] rfA160_0 rfB160_0 [(3, .nod [.fn (.yield b2) [] []]), (2, (dP b1))] 40, .var b1 [.fn (.func 159) [] [dP b3, dP b4]] 239, .lp b2 .ready none [20] rfA57_0 rfB57_0 [(14, (dP b9)), (13, (dP b8)), (12, (dP b7)), (11, (dP b6)), (10, (dP b5)), (9, .nod [dN a3]), (8, .nod [dN a2])] 38, .var b3 [dP b10] 39, .var b4 [.sl 1 (lB a4)] 25, .var b5 [dN a5] 3, .var b6 [dN a6] 3, .var b7 [dT a7] 4, .var b8 [dN res.1, dN res.2.1] 202, .var b9 [dT res.2.2] 4, .var b10 [.val v11] 142, .row v11 (lB a11) 1 5])) := by
 unfold find_having_2_r0 at h0
 refine RoundF.mk (X := X) rfl rfl rfl ?_
 refine aS ?_
 refine aA rfl rfl ?_
 refine TL.nil ?_
 show T (X.inR b0) _ _ _
 refine T.region ?_
 refine TL.op (OpR.alloc rfl rfl (fun _ => rfl)) rfl (fun p31 => ?_)
 refine TL.op0 (OpR.store 12 rfl rfl rfl rfl rfl rfl rfl rfl) ?_
 refine TL.nil ?_
 refine RoundA.mk ?_
 refine T.block ?_
 refine aS ?_
 refine aA rfl rfl ?_
 refine TL.op1 (OpR.loadPtr 12 rfl rfl rfl rfl) rfl ?_
 refine TL.op1 (OpR.cast (OpR.pure rfl) (intE (lenM _ _))) rfl ?_
 refine aA rfl rfl ?_
 refine TL.nil ?_
 show T (X.inR b0) _ _ _
 obtain ⟨t32, ht32, h0⟩ := bS h0
 refine T.cutN (fun S' => ∃ u33, t32 = Ex.brk u33 ∧ S' = ⟨[], [.lp b0 .busy none [13, 14] rfA160_0 rfB160_0 [(3, .nod [.fn (.yield b2) [] []]), (2, (dP b1))] 40, .var b1 [.fn (.func 159) [] [dP b3, dP b4]] 239, .lp b2 .ready none [20] rfA57_0 rfB57_0 [(14, (dP b9)), (13, (dP b8)), (12, (dP b7)), (11, (dP b6)), (10, (dP b5)), (9, .nod [dN a3]), (8, .nod [dN a2])] 38, .var b3 [dP b10] 39, .var b4 [.sl 1 (lB a4)] 25, .var b5 [dN a5] 3, .var b6 [dN a6] 3, .var b7 [dT a7] 4, .var b8 [dN u33.1, dN u33.2.1] 202, .var b9 [dT u33.2.2] 4, .var b10 [.val v11] 142, .row v11 (lB a11) 1 5], 40⟩) (RoundG.ghost) ?_ ?_
 rotate_left
 · rintro _ ⟨u33, rfl, rfl⟩
   obtain rfl := osi h0
   exact RoundG.mk (ks := [0, 1, 2, 3, 4, 5, 6, 7, 8, 9, 10, 11]) (Gst.only [] rfl) undef rfl rfl rfl rfl rfl
 refine T.block ?_
 obtain ⟨n35, n40⟩ := loop_some ht32
 refine T.loop (fun n S' => ∃ S'', Gst S' S'' ∧ ∃ s34 : Int × Int × Int × Bool, S'' = ⟨[(18, (dN s34.1)), (17, (dN (a1.fCells.length : Int))), (16, .sl 5 (List.map e_cell_Cell a1.fCells)), (5, (dP (blk p31))), (4, (dN a0)), (3, .nod [.fn (.yield b2) [] []]), (2, (dP b1))], [.lp b0 .busy none [13, 14] rfA160_0 rfB160_0 [(3, .nod [.fn (.yield b2) [] []]), (2, (dP b1))] 40, .var b1 [.fn (.func 159) [] [dP b3, dP b4]] 239, .lp b2 .ready none [20] rfA57_0 rfB57_0 [(14, (dP b9)), (13, (dP b8)), (12, (dP b7)), (11, (dP b6)), (10, (dP b5)), (9, .nod [dN a3]), (8, .nod [dN a2])] 38, .var b3 [dP b10] 39, .var b4 [.sl 1 (lB a4)] 25, .var b5 [dN a5] 3, .var b6 [dN a6] 3, .var b7 [dT a7] 4, .var b8 [dN s34.2.1, dN s34.2.2.1] 202, .var b9 [dT s34.2.2.2] 4, .var b10 [.val v11] 142, .row v11 (lB a11) 1 5, .var (blk p31) [.sl 5 (List.map e_cell_Cell a1.fCells), dN a1.fEnd, dT a1.fHidden] 49], 40⟩ ∧ iter (find_having_2_r0.l1 a0 a1 a2 a3 a4 a5 a6 a7 a11) n s34 = some t32) n35 ?_ ?_
 · exact ⟨_, Gst.only [2, 3, 4, 5, 16, 17, 18] rfl, (0, a8, a9, a10), rfl, n40⟩
 rintro n35 _ ⟨_, g, s34, rfl, i39⟩
 refine T.ghost g ?_
 obtain ⟨m36, q37, rfl, q38, i39⟩ := iter_succ i39
 unfold find_having_2_r0.l1 at q38
 refine aS ?_
 refine aA rfl rfl ?_
 refine TL.nil ?_
 show T (X.inR b0) _ _ _
 refine T.seq ?_
 rcases ite_some q38 with ⟨c42, q38⟩ | ⟨c42, q38⟩
 rotate_left
 · refine T.condF rfl (eF c42) ?_
   refine T.exit ?_
   obtain rfl := osi q38
   obtain rfl : _ = _ := i39
   exact ⟨_, gP [] [0, 1, 2, 3, 4, 5, 6, 7, 8, 9, 10, 11] rfl rfl rfl, _, rfl, rfl⟩
 refine T.condT rfl (eT c42) ?_
 refine T.skip ?_
 show T (X.inR b0) _ _ _
 refine T.seq ?_
 obtain ⟨t43, ht43, q38⟩ := bS q38
 refine T.cutC (fun S' => ∃ u44, t43 = Ex.brk u44 ∧ S' = ⟨[(18, (dN s34.1)), (17, (dN (a1.fCells.length : Int))), (16, .sl 5 (List.map e_cell_Cell a1.fCells)), (5, (dP (blk p31))), (4, (dN a0)), (3, .nod [.fn (.yield b2) [] []]), (2, (dP b1))], [.lp b0 .busy none [13, 14] rfA160_0 rfB160_0 [(3, .nod [.fn (.yield b2) [] []]), (2, (dP b1))] 40, .var b1 [.fn (.func 159) [] [dP b3, dP b4]] 239, .lp b2 .ready none [20] rfA57_0 rfB57_0 [(14, (dP b9)), (13, (dP b8)), (12, (dP b7)), (11, (dP b6)), (10, (dP b5)), (9, .nod [dN a3]), (8, .nod [dN a2])] 38, .var b3 [dP b10] 39, .var b4 [.sl 1 (lB a4)] 25, .var b5 [dN a5] 3, .var b6 [dN a6] 3, .var b7 [dT a7] 4, .var b8 [dN u44.1, dN u44.2.1] 202, .var b9 [dT u44.2.2] 4, .var b10 [.val v11] 142, .row v11 (lB a11) 1 5, .var (blk p31) [.sl 5 (List.map e_cell_Cell a1.fCells), dN a1.fEnd, dT a1.fHidden] 49], 40⟩) (fun _ h => h) ?_ ?_
 rotate_left
 · rintro _ ⟨u44, rfl, rfl⟩
   show T (X.inR b0) _ _ _
   refine T.region ?_
   iterate 2 refine aA rfl rfl ?_
   refine TL.nil ?_
   obtain rfl := osi q38
   exact ⟨m36, Nat.lt_succ_self _, _, Gst.only [2, 3, 4, 5, 16, 17, 18] rfl, (w64 (s34.1 + 1), u44.1, u44.2.1, u44.2.2), rfl, i39⟩
 refine T.block ?_
 refine aS ?_
 refine aA rfl rfl ?_
 obtain ⟨x45, hx45, ht43⟩ := bS ht43
 refine TL.op1 (OpR.indexM e_cell_Cell hx45 rfl rfl rfl rfl rfl) rfl ?_
 refine aA rfl rfl ?_
 refine TL.op (OpR.alloc rfl rfl (fun _ => rfl)) rfl (fun p46 => ?_)
 refine aA rfl rfl ?_
 refine TL.op0 (OpR.store 13 rfl rfl rfl rfl rfl rfl rfl rfl) ?_
 refine TL.nil ?_
 show T (X.inR b0) _ _ _
 refine aS ?_
 refine aA rfl rfl ?_
 refine TL.op1 (OpR.loadPtr 12 rfl rfl rfl rfl) rfl ?_
 iterate 2 refine aA rfl rfl ?_
 rcases ite_some ht43 with ⟨c47, ht43⟩ | ⟨c47, ht43⟩
 · refine TL.off rfl rfl rfl rfl (not_t (c47)) rfl rfl ?_
   refine TL.off rfl rfl rfl rfl (not_t (c47)) rfl rfl ?_
   refine TL.off rfl rfl rfl rfl (not_t (c47)) rfl rfl ?_
   refine TL.op1 (OpR.pickF rfl (not_t (c47)) rfl) rfl ?_
   refine aA rfl rfl ?_
   refine TL.off rfl rfl rfl rfl rfl rfl rfl ?_
   refine TL.off rfl rfl rfl rfl rfl rfl rfl ?_
   refine TL.off rfl rfl rfl rfl rfl rfl rfl ?_
   refine TL.off rfl rfl rfl rfl rfl rfl rfl ?_
   refine TL.off rfl rfl rfl rfl rfl rfl rfl ?_
   refine TL.off rfl rfl rfl rfl rfl rfl rfl ?_
   refine TL.op1 (OpR.pickF rfl rfl rfl) rfl ?_
   refine TL.nil ?_
   show T (X.inR b0) _ _ _
   refine T.condF rfl rfl ?_
   refine T.skip ?_
   obtain rfl := osi ht43
   exact ⟨_, gP [2, 3, 4, 5, 16, 17, 18] [0, 1, 2, 3, 4, 5, 6, 7, 8, 9, 10, 11, 12] rfl rfl rfl, _, rfl, rfl⟩
 refine TL.on rfl rfl rfl rfl (not_f (eq_false_of_ne_true c47)) ?_
 refine TL.op1 (OpR.loadPtr 1 rfl rfl rfl rfl) rfl ?_
 refine TL.on rfl rfl rfl rfl (not_f (eq_false_of_ne_true c47)) ?_
 refine TL.op1 (OpR.loadPtr 13 rfl rfl rfl rfl) rfl ?_
 refine TL.on rfl rfl rfl rfl (not_f (eq_false_of_ne_true c47)) ?_
 obtain ⟨x48, hx48, ht43⟩ := bS ht43
 refine TL.op1 (OpR.callV [3, 4, 10, 11] rfl fn159 (find_having_1_c hx48) rfl rfl rfl (fun _ => rfl)) rfl ?_
 refine TL.op1 (OpR.pickT rfl (not_f (eq_false_of_ne_true c47)) rfl) rfl ?_
 refine aA rfl rfl ?_
 rcases ite_some ht43 with ⟨c49, ht43⟩ | ⟨c49, ht43⟩
 rotate_left
 · refine TL.off rfl rfl rfl rfl (eq_false_of_ne_true c49) rfl rfl ?_
   refine TL.off rfl rfl rfl rfl (eq_false_of_ne_true c49) rfl rfl ?_
   refine TL.off rfl rfl rfl rfl (eq_false_of_ne_true c49) rfl rfl ?_
   refine TL.off rfl rfl rfl rfl (eq_false_of_ne_true c49) rfl rfl ?_
   refine TL.off rfl rfl rfl rfl (eq_false_of_ne_true c49) rfl rfl ?_
   refine TL.off rfl rfl rfl rfl (eq_false_of_ne_true c49) rfl rfl ?_
   refine TL.op1 (OpR.pickF rfl (eq_false_of_ne_true c49) rfl) rfl ?_
   refine TL.nil ?_
   show T (X.inR b0) _ _ _
   refine T.condF rfl rfl ?_
   refine T.skip ?_
   obtain rfl := osi ht43
   exact ⟨_, gP [2, 3, 4, 5, 16, 17, 18] [0, 1, 2, 3, 4, 5, 6, 7, 8, 9, 10, 11, 12] rfl rfl rfl, _, rfl, rfl⟩
 refine TL.on rfl rfl rfl rfl (c49) ?_
 refine aA rfl rfl ?_
 refine TL.on rfl rfl rfl rfl (c49) ?_
 refine aA rfl rfl ?_
 refine TL.on rfl rfl rfl rfl (c49) ?_
 refine aA rfl rfl ?_
 refine TL.on rfl rfl rfl rfl (c49) ?_
 refine TL.op1 (OpR.build rfl rfl rfl rfl rfl) rfl ?_
 refine TL.on rfl rfl rfl rfl (c49) ?_
 obtain ⟨x50, hx50, ht43⟩ := bS ht43
 rcases x50 with x50 | x50
 rotate_left
 · dsimp only at ht43
   refine TL.op1 (OpR.callY [2, 5, 6, 7, 8, 9] rfl (find_Next_r0_cx2 hx50) rfl rfl rfl (fun _ => rfl)) rfl ?_
   refine TL.on rfl rfl rfl rfl (c49) ?_
   refine aA rfl rfl ?_
   refine TL.op1 (OpR.pickT rfl (c49) rfl) rfl ?_
   refine TL.nil ?_
   show T (X.inR b0) _ _ _
   refine T.condF rfl rfl ?_
   refine T.skip ?_
   obtain rfl := osi ht43
   exact ⟨_, gP [2, 3, 4, 5, 16, 17, 18] [0, 1, 2, 3, 4, 5, 6, 7, 8, 9, 10, 11, 12] rfl rfl rfl, _, rfl, rfl⟩
 dsimp only at ht43
 refine TL.op1 (OpR.callY [2, 5, 6, 7, 8, 9] rfl (find_Next_r0_cx1 hx50) rfl rfl rfl (fun _ => rfl)) rfl ?_
 refine TL.on rfl rfl rfl rfl (c49) ?_
 refine aA rfl rfl ?_
 refine TL.op1 (OpR.pickT rfl (c49) rfl) rfl ?_
 refine TL.nil ?_
 show T (X.inR b0) _ _ _
 refine T.condT rfl rfl ?_
 refine T.ret ?_
 obtain rfl := osi ht43
 obtain rfl := osi q38
 obtain rfl : _ = _ := i39
 obtain rfl := osi h0
 exact RoundG.mk (ks := [0, 1, 2, 3, 4, 5, 6, 7, 8, 9, 10, 11]) (gP [] [0, 1, 2, 3, 4, 5, 6, 7, 8, 9, 10, 11] rfl rfl rfl) undef rfl rfl rfl rfl rfl
theorem find_having_2_r0_cx1 {a0 : Int} {a1 : row_Row} {a2 : Int} {a3 : Int} {a4 : List UInt8} {a5 : Int} {a6 : Int} {a7 : Bool} {a8 : Int} {a9 : Int} {a10 : Bool} {a11 : List UInt8} {b0 : Nat} {b1 : Nat} {b2 : Nat} {b3 : Nat} {b4 : Nat} {b5 : Nat} {b6 : Nat} {b7 : Nat} {b8 : Nat} {b9 : Nat} {b10 : Nat} {v11 : Value} {res : Int × Int × Bool × Int × Int × Bool} (h0 : find_having_2_r0 a0 a1 a2 a3 a4 a5 a6 a7 a8 a9 a10 a11 = some (Sum.inl res)) : RoundF X b0 [dN a0, .agg [.sl 5 (List.map e_cell_Cell a1.fCells), dN a1.fEnd, dT a1.fHidden]] [.lp b0 .ready none [13, 14] rfA160_0 rfB160_0 [(3, .nod [.fn (.yield b2) [] []]), (2, (dP b1))] 40, .var b1 [.fn (.func 159) [] [dP b3, dP b4]] 239, .lp b2 .ready none [20] rfA57_0 rfB57_0 [(14, (dP b9)), (13, (dP b8)), (12, (dP b7)), (11, (dP b6)), (10, (dP b5)), (9, .nod [dN a3]), (8, .nod [dN a2])] 38, .var b3 [dP b10] 39, .var b4 [.sl 1 (lB a4)] 25, .var b5 [dN a5] 3, .var b6 [dN a6] 3, .var b7 [dT a7] 4, .var b8 [dN a8, dN a9] 202, .var b9 [dT a10] 4, .var b10 [.val v11] 142, .row v11 (lB a11) 1 5] (fun x => (dT false)) (fun x => [.lp b0 .done (some (.ret)) [13, 14] rfA160_0 rfB160_0 [(3, .nod [.fn (.yield b2) [] []]), (2, (dP b1))] 40, .var b1 [.fn (.func 159) [] [dP b3, dP b4]] 239, .lp b2 .done (some (.ret)) [20] rfA57_0 rfB57_0 [(14, (dP b9)), (13, (dP b8)), (12, (dP b7)), (11, (dP b6)), (10, (dP b5)), (9, .nod [dN a3]), (8, .nod [dN a2])] 38, .var b3 [dP b10] 39, .var b4 [.sl 1 (lB a4)] 25, .var b5 [dN res.1] 3, .var b6 [dN res.2.1] 3, .var b7 [dT res.2.2.1] 4, .var b8 [dN res.2.2.2.1, dN res.2.2.2.2.1] 202, .var b9 [dT res.2.2.2.2.2] 4, .var b10 [.val v11] 142, .row v11 (lB a11) 1 5]) := find_having_2_r0_c h0
theorem find_having_2_r0_cx2 {a0 : Int} {a1 : row_Row} {a2 : Int} {a3 : Int} {a4 : List UInt8} {a5 : Int} {a6 : Int} {a7 : Bool} {a8 : Int} {a9 : Int} {a10 : Bool} {a11 : List UInt8} {b0 : Nat} {b1 : Nat} {b2 : Nat} {b3 : Nat} {b4 : Nat} {b5 : Nat} {b6 : Nat} {b7 : Nat} {b8 : Nat} {b9 : Nat} {b10 : Nat} {v11 : Value} {res : Int × Int × Bool} (h0 : find_having_2_r0 a0 a1 a2 a3 a4 a5 a6 a7 a8 a9 a10 a11 = some (Sum.inr res)) : RoundF X b0 [dN a0, .agg [.sl 5 (List.map e_cell_Cell a1.fCells), dN a1.fEnd, dT a1.fHidden]] [.lp b0 .ready none [13, 14] rfA160_0 rfB160_0 [(3, .nod [.fn (.yield b2) [] []]), (2, (dP b1))] 40, .var b1 [.fn (.func 159) [] [dP b3, dP b4]] 239, .lp b2 .ready none [20] rfA57_0 rfB57_0 [(14, (dP b9)), (13, (dP b8)), (12, (dP b7)), (11, (dP b6)), (10, (dP b5)), (9, .nod [dN a3]), (8, .nod [dN a2])] 38, .var b3 [dP b10] 39, .var b4 [.sl 1 (lB a4)] 25, .var b5 [dN a5] 3, .var b6 [dN a6] 3, .var b7 [dT a7] 4, .var b8 [dN a8, dN a9] 202, .var b9 [dT a10] 4, .var b10 [.val v11] 142, .row v11 (lB a11) 1 5] (fun x => (dT true)) (fun x => [.lp b0 .ready none [13, 14] rfA160_0 rfB160_0 [(3, .nod [.fn (.yield b2) [] []]), (2, (dP b1))] 40, .var b1 [.fn (.func 159) [] [dP b3, dP b4]] 239, .lp b2 .ready none [20] rfA57_0 rfB57_0 [(14, (dP b9)), (13, (dP b8)), (12, (dP b7)), (11, (dP b6)), (10, (dP b5)), (9, .nod [dN a3]), (8, .nod [dN a2])] 38, .var b3 [dP b10] 39, .var b4 [.sl 1 (lB a4)] 25, .var b5 [dN a5] 3, .var b6 [dN a6] 3, .var b7 [dT a7] 4, .var b8 [dN res.1, dN res.2.1] 202, .var b9 [dT res.2.2] 4, .var b10 [.val v11] 142, .row v11 (lB a11) 1 5]) := find_having_2_r0_c h0
noncomputable def walk_Range_row_Row_1.l1 (a1 : Int) (a3 : Int) (a4 : Int) (a5 : List UInt8) (a6 : Int) (a7 : Int) (a8 : Bool) (a12 : List UInt8) (s9 : Int × Int × Int × Bool × (List wFr)) : Option (Lp (Int × Int × Int × Bool × (List wFr)) (Ex (Int × Int × Bool) ((Int × Int × Bool) ⊕ (Int × Int × Bool × Int × Int × Bool)))) :=
  if s9.1 < a1 then
    bnd (walk_stack_row_Row_top s9.2.2.2.2) fun x18 =>
    bnd (idx s9.2.2.2.2 x18) fun x19 =>
    bnd (some x19.fN) fun q20 => match q20 with
      | none =>
        none
      | some z21 =>
        bnd (o_tNd z21) fun x23 =>
        bnd (if x19.fNext = (x23.fItems.length : Int) then
          bnd (walk_stack_row_Row_forth s9.2.2.2.2) fun x28 =>
          some x28.2
        else
          some s9.2.2.2.2 : Option (List wFr)) fun t25 =>
        bnd (walk_stack_row_Row_top t25) fun x30 =>
        bnd (idx t25 x30) fun x31 =>
        bnd (some x31.fN) fun q32 => match q32 with
          | none =>
            none
          | some z33 =>
            bnd (o_tNd z33) fun x35 =>
            bnd (idx x35.fItems x31.fNext) fun x37 =>
            bnd (find_having_2_r0 s9.1 x37 a3 a4 a5 a6 a7 a8 s9.2.1 s9.2.2.1 s9.2.2.2.1 a12) fun x38 =>
            match x38 with
            | .inl x38 =>
                some (Lp.done (Ex.ret (Sum.inr (x38.1, x38.2.1, x38.2.2.1, x38.2.2.2.1, x38.2.2.2.2.1, x38.2.2.2.2.2))))
            | .inr x38 =>
                some (Lp.next (w64 (s9.1 + 1), x38.1, x38.2.1, x38.2.2, (t25.set x30.toNat (⟨x31.fN, x31.fFirst, w64 (x31.fNext + 1)⟩ : wFr))))
  else
    some (Lp.done (Ex.brk (s9.2.1, s9.2.2.1, s9.2.2.2.1)))
noncomputable def walk_Range_row_Row_1 (a0 : Int) (a1 : Int) (a2 : Option NP) (a3 : Int) (a4 : Int) (a5 : List UInt8) (a6 : Int) (a7 : Int) (a8 : Bool) (a9 : Int) (a10 : Int) (a11 : Bool) (a12 : List UInt8) : Option ((Int × Int × Bool) ⊕ (Int × Int × Bool × Int × Int × Bool)) :=
  if a0 = a1 then
    some (Sum.inl (a9, a10, a11))
  else
    bnd (tree_Tree_row_Row_Root (⟨a2⟩ : tTr)) fun x4 =>
    match x4 with
    | .inl x4 =>
        none
    | .inr x4 =>
        bnd (walk_stack_row_Row_down x4.1 x4.2.1 x4.2.2 0 a0) fun x5 =>
        bnd (loop (walk_Range_row_Row_1.l1 a1 a3 a4 a5 a6 a7 a8 a12) (a0, a9, a10, a11, x5) : Option (Ex (Int × Int × Bool) ((Int × Int × Bool) ⊕ (Int × Int × Bool × Int × Int × Bool)))) fun t6 => match t6 with
          | .brk u7 =>
            some (Sum.inl (u7.1, u7.2.1, u7.2.2))
          | .ret u7 => some u7
theorem walk_Range_row_Row_1_c {a0 : Int} {a1 : Int} {a2 : Option NP} {a3 : Int} {a4 : Int} {a5 : List UInt8} {a6 : Int} {a7 : Int} {a8 : Bool} {a9 : Int} {a10 : Int} {a11 : Bool} {a12 : List UInt8} {b0 : Nat} {b1 : Nat} {b2 : Nat} {b3 : Nat} {b4 : Nat} {b5 : Nat} {b6 : Nat} {b7 : Nat} {b8 : Nat} {b9 : Nat} {b10 : Nat} {b11 : Nat} {b12 : Nat} {b13 : Nat} {v14 : Value} {res : (Int × Int × Bool) ⊕ (Int × Int × Bool × Int × Int × Bool)} (h0 : walk_Range_row_Row_1 a0 a1 a2 a3 a4 a5 a6 a7 a8 a9 a10 a11 a12 = some res) : CallF X 194 [.fn (.yield b0) [] [], dP b1, dP b2, dP b3] [.lp b0 .ready none [13, 14] rfA160_0 rfB160_0 [(3, .nod [.fn (.yield b5) [] []]), (2, (dP b4))] 40, .var b1 [dN a0] 3, .var b2 [dN a1] 3, .var b3 [(eOP a2)] 118, .var b4 [.fn (.func 159) [] [dP b6, dP b7]] 239, .lp b5 .ready none [20] rfA57_0 rfB57_0 [(14, (dP b12)), (13, (dP b11)), (12, (dP b10)), (11, (dP b9)), (10, (dP b8)), (9, .nod [dN a4]), (8, .nod [dN a3])] 38, .var b6 [dP b13] 39, .var b7 [.sl 1 (lB a5)] 25, .var b8 [dN a6] 3, .var b9 [dN a7] 3, .var b10 [dT a8] 4, .var b11 [dN a9, dN a10] 202, .var b12 [dT a11] 4, .var b13 [.val v14] 142, .row v14 (lB a12) 1 5] (fun x => (match res with | .inl res => .tup [] | .inr res => .tup [])) (fun x => (match res with | .inl res => [.lp b0 .ready none [13, 14] rfA160_0 rfB160_0 [(3, .nod [.fn (.yield b5) [] []]), (2, (dP b4))] 40, .var b1 [dN a0] 3, .var b2 [dN a1] 3, .var b3 [(eOP a2)] 118, .var b4 [.fn (.func 159) [] [dP b6, dP b7]] 239, .lp b5 .ready none [20] rfA57_0 rfB57_0 [(14, (dP b12)), (13, (dP b11)), (12, (dP b10)), (11, (dP b9)), (10, (dP b8)), (9, .nod [dN a4]), (8, .nod [dN a3])] 38, .var b6 [dP b13] 39, .var b7 [.sl 1 (lB a5)] 25, .var b8 [dN a6] 3, .var b9 [dN a7] 3, .var b10 [dT a8] 4, .var b11 [dN res.1, dN res.2.1] 202, .var b12 [dT res.2.2] 4, .var b13 [.val v14] 142, .row v14 (lB a12) 1 5] | .inr res => [.lp b0 .done (some (.ret)) [13, 14] rfA160_0 rfB160_0 [(3, .nod [.fn (.yield b5) [] []]), (2, (dP b4))] 40, .var b1 [dN a0] 3, .var b2 [dN a1] 3, .var b3 [(eOP a2)] 118, .var b4 [.fn (.func 159) [] [dP b6, dP b7]] 239, .lp b5 .done (some (.ret)) [20] rfA57_0 rfB57_0 [(14, (dP b12)), (13, (dP b11)), (12, (dP b10)), (11, (dP b9)), (10, (dP b8)), (9, .nod [dN a4]), (8, .nod [dN a3])] 38, .var b6 [dP b13] 39, .var b7 [.sl 1 (lB a5)] 25, .var b8 [dN res.1] 3, .var b9 [dN res.2.1] 3, .var b10 [dT res.2.2.1] 4, .var b11 [dN res.2.2.2.1, dN res.2.2.2.2.1] 202, .var b12 [dT res.2.2.2.2.2] 4, .var b13 [.val v14] 142, .row v14 (lB a12) 1 5])) := by
 unfold walk_Range_row_Row_1 at h0
 refine CallF.mkG (X := X) rfl Try.func194 rfl rfl Try.ntmps194 rfl rfl ?_
 refine T.seq ?_
 refine aS ?_
 refine TL.op1 (OpR.loadPtr 1 rfl rfl rfl rfl) rfl ?_
 refine TL.op1 (OpR.loadPtr 2 rfl rfl rfl rfl) rfl ?_
 refine aA rfl rfl ?_
 refine aN rfl ?_
 rcases ite_some h0 with ⟨c1, h0⟩ | ⟨c1, h0⟩
 · refine T.condT rfl (beq_iff_eq.2 c1) ?_
   refine T.ret ?_
   obtain rfl := osi h0
   exact rO [0, 1, 2, 3, 4, 5, 6, 7, 8, 9, 10, 11, 12, 13, 14] [] rfl undef ResL.nil rfl rfl rfl rfl
 refine T.condF rfl (beq_eq_false_iff_ne.2 c1) ?_
 refine aK rfl ?_
 refine aS ?_
 refine TL.op (OpR.alloc rfl rfl (fun _ => rfl)) rfl (fun p2 => ?_)
 refine aN rfl ?_
 refine T.seq ?_
 obtain ⟨x4, hx4, h0⟩ := bS h0
 rcases x4 with x4 | x4
 · dsimp only at h0
   exact (by cases h0)
 dsimp only at h0
 obtain ⟨x5, hx5, h0⟩ := bS h0
 refine T.drawS drawsX (fun env3 => [.agg [(eOP a2)], .nod [.sl 1 (List.map eNP x4.1), .sl 3 (List.map e_row_Row x4.2.1), dN x4.2.2], dN a0, .tup []]) (fun D env3 => [.lp b0 .ready none [13, 14] rfA160_0 rfB160_0 [(3, .nod [.fn (.yield b5) [] []]), (2, (dP b4))] 40, .var b1 [dN a0] 3, .var b2 [dN a1] 3, .var b3 [(eOP a2)] 118, .var b4 [.fn (.func 159) [] [dP b6, dP b7]] 239, .lp b5 .ready none [20] rfA57_0 rfB57_0 [(14, (dP b12)), (13, (dP b11)), (12, (dP b10)), (11, (dP b9)), (10, (dP b8)), (9, .nod [dN a4]), (8, .nod [dN a3])] 38, .var b6 [dP b13] 39, .var b7 [.sl 1 (lB a5)] 25, .var b8 [dN a6] 3, .var b9 [dN a7] 3, .var b10 [dT a8] 4, .var b11 [dN a9, dN a10] 202, .var b12 [dT a11] 4, .var b13 [.val v14] 142, .row v14 (lB a12) 1 5, (bif D 3 then .var (blk p2) [.val (vn (env3 3) 0)] 272 else .var (blk p2) [.val (.slice none 0 0)] 272)] ++ (bif D 3 then [.row (vn (env3 3) 0) (List.map e_wFr x5) 3 278] else [])) [0, 1, 0, 7] [0, 1, 2, 5] _ (by decide +kernel) (by decide +kernel) (fun _ => rfl) (fun _ => rfl) ?_ (fun _ => rfl) (fun _ => rfl) ?_
 · refine oT (.agg [(eOP a2)]) (fun _ _ => OpR.loadPtr 3 rfl rfl rfl rfl) ?_
   refine oT (.nod [.sl 1 (List.map eNP x4.1), .sl 3 (List.map e_row_Row x4.2.1), dN x4.2.2]) (fun _ _ => OpR.call0 fn196 (tree_Tree_row_Row_Root_cx2 hx4) rfl) ?_
   refine oT ((dN a0)) (fun _ _ => OpR.loadPtr 1 rfl rfl rfl rfl) ?_
   refine OpsS.cons' true ?_ (fun D hA env3 x j hj hD => match j, hj, hD with | 0, _, _ => rfl | 1, _, _ => rfl | 2, _, _ => rfl | 3, hj, _ => absurd rfl hj | _ + 4, _, _ => rfl) ?_
   · intro D env3 hA
     exact OpS.yp [(3, false)] ⟨hA.me, trivial⟩ (Want.plain rfl) (OpR.call [15] fn195 (walk_stack_row_Row_down_c hx5) rfl rfl rfl (fun _ => rfl)) (fun x => rfl) (fun x => rfl)
   exact trivial
 intro env3
 show T X _ _ _
 refine aS ?_
 refine TL.op1 (OpR.loadPtr 1 rfl rfl rfl rfl) rfl ?_
 refine aA rfl rfl ?_
 refine aN rfl ?_
 obtain ⟨t6, ht6, h0⟩ := bS h0
 refine T.cutN (fun S' => ∃ u7, t6 = Ex.brk u7 ∧ S' = ⟨[], [.lp b0 .ready none [13, 14] rfA160_0 rfB160_0 [(3, .nod [.fn (.yield b5) [] []]), (2, (dP b4))] 40, .var b1 [dN a0] 3, .var b2 [dN a1] 3, .var b3 [(eOP a2)] 118, .var b4 [.fn (.func 159) [] [dP b6, dP b7]] 239, .lp b5 .ready none [20] rfA57_0 rfB57_0 [(14, (dP b12)), (13, (dP b11)), (12, (dP b10)), (11, (dP b9)), (10, (dP b8)), (9, .nod [dN a4]), (8, .nod [dN a3])] 38, .var b6 [dP b13] 39, .var b7 [.sl 1 (lB a5)] 25, .var b8 [dN a6] 3, .var b9 [dN a7] 3, .var b10 [dT a8] 4, .var b11 [dN u7.1, dN u7.2.1] 202, .var b12 [dT u7.2.2] 4, .var b13 [.val v14] 142, .row v14 (lB a12) 1 5], 62⟩) (fun _ _ g ⟨h, S', ds, g', r⟩ => ⟨h, S', ds, Gst.trans g g', r⟩) ?_ ?_
 rotate_left
 · rintro _ ⟨u7, rfl, rfl⟩
   obtain rfl := osi h0
   exact PostG.finP (ks := [0, 1, 2, 3, 4, 5, 6, 7, 8, 9, 10, 11, 12, 13, 14]) (Gst.only [] rfl) undef ResL.nil rfl rfl rfl rfl
 refine T.block ?_
 obtain ⟨n10, n15⟩ := loop_some ht6
 refine T.loop (fun n S' => ∃ S'', Gst S' S'' ∧ ∃ y8 : Value, ∃ s9 : Int × Int × Int × Bool × (List wFr), S'' = ⟨[(6, (dN s9.1)), (5, (dP (blk p2))), (2, (dP b2)), (0, .fn (.yield b0) [] [])], [.lp b0 .ready none [13, 14] rfA160_0 rfB160_0 [(3, .nod [.fn (.yield b5) [] []]), (2, (dP b4))] 40, .var b1 [dN a0] 3, .var b2 [dN a1] 3, .var b3 [(eOP a2)] 118, .var b4 [.fn (.func 159) [] [dP b6, dP b7]] 239, .lp b5 .ready none [20] rfA57_0 rfB57_0 [(14, (dP b12)), (13, (dP b11)), (12, (dP b10)), (11, (dP b9)), (10, (dP b8)), (9, .nod [dN a4]), (8, .nod [dN a3])] 38, .var b6 [dP b13] 39, .var b7 [.sl 1 (lB a5)] 25, .var b8 [dN a6] 3, .var b9 [dN a7] 3, .var b10 [dT a8] 4, .var b11 [dN s9.2.1, dN s9.2.2.1] 202, .var b12 [dT s9.2.2.2.1] 4, .var b13 [.val v14] 142, .row v14 (lB a12) 1 5, .var (blk p2) [.val y8] 272, .row y8 (List.map e_wFr s9.2.2.2.2) 3 278], 62⟩ ∧ iter (walk_Range_row_Row_1.l1 a1 a3 a4 a5 a6 a7 a8 a12) n s9 = some t6) n10 ?_ ?_
 · exact ⟨_, Gst.only [0, 2, 5, 6] rfl, (vn (env3 3) 0), (a0, a9, a10, a11, x5), rfl, n15⟩
 rintro n10 _ ⟨_, g, y8, s9, rfl, i14⟩
 refine T.ghost g ?_
 obtain ⟨m11, q12, rfl, q13, i14⟩ := iter_succ i14
 unfold walk_Range_row_Row_1.l1 at q13
 refine T.seq ?_
 refine aS ?_
 refine aA rfl rfl ?_
 refine TL.op1 (OpR.loadPtr 2 rfl rfl rfl rfl) rfl ?_
 refine aA rfl rfl ?_
 refine aN rfl ?_
 rcases ite_some q13 with ⟨c17, q13⟩ | ⟨c17, q13⟩
 rotate_left
 · refine T.condF rfl (eF c17) ?_
   refine T.exit ?_
   obtain rfl := osi q13
   obtain rfl : _ = _ := i14
   exact ⟨_, gP [] [0, 1, 2, 3, 4, 5, 6, 7, 8, 9, 10, 11, 12, 13, 14] rfl rfl rfl, _, rfl, rfl⟩
 refine T.condT rfl (eT c17) ?_
 refine aK rfl ?_
 refine T.seq ?_
 refine T.block ?_
 refine T.seq ?_
 refine aS ?_
 obtain ⟨x18, hx18, q13⟩ := bS q13
 refine TL.op1 (OpR.call [15, 16] fn197 (walk_stack_row_Row_top_c hx18) rfl rfl rfl (fun _ => rfl)) rfl ?_
 refine aA rfl rfl ?_
 refine aN rfl ?_
 refine T.seq ?_
 obtain ⟨x19, hx19, q13⟩ := bS q13
 obtain ⟨q20, hq20, q13⟩ := bS q13
 rcases q20 with _ | z21
 · dsimp only at q13
   exact (by cases q13)
 dsimp only at q13
 obtain ⟨x23, hx23, q13⟩ := bS q13
 rw [o_tNd_eq hx23] at hq20
 refine T.drawQ drawsX [.val (.pointer (some ⟨blk y8, x18.toNat * 3, none⟩)), .val (.pointer (some ⟨blk y8, x18.toNat * 3, none⟩)), .val (.pointer (some ⟨blk y8, x18.toNat * 3 + 2, none⟩)), dN x19.fNext, .val (.pointer (some ⟨blk y8, x18.toNat * 3, none⟩)), .val (.pointer (some ⟨blk y8, x18.toNat * 3, none⟩)), .val (.pointer (some ⟨blk y8, x18.toNat * 3, none⟩)), .nod [.sl 1 (List.map eNP x23.fKids), .sl 3 (List.map e_row_Row x23.fItems), dN x23.fN], .nod [.sl 1 (List.map eNP x23.fKids), .sl 3 (List.map e_row_Row x23.fItems), dN x23.fN], .nod [.sl 3 (List.map e_row_Row x23.fItems), dN x23.fN], .sl 3 (List.map e_row_Row x23.fItems), dN (x23.fItems.length : Int), dT (x19.fNext == (x23.fItems.length : Int))] [0, 2, 5, 6, 35] (by decide +kernel) rfl ?_ rfl ?_
 · iterate 3 refine aB rfl rfl rfl ?_
   refine OpsQ.yes (Want.plain rfl) rfl (OpR.rowLoadM (j := x18) e_wFr 16 hx19 rfl rfl rfl rfl) ?_
   iterate 3 refine aB rfl rfl rfl ?_
   refine OpsQ.yes (Want.plain rfl) rfl (OpR.cast (OpR.rowLoad0M (j := x18) e_wFr 16 hx19 rfl rfl rfl rfl) (congrArg eOP (osi hq20))) ?_
   iterate 3 refine aB rfl rfl rfl ?_
   refine OpsQ.yes (Want.plain rfl) rfl (OpR.cast (OpR.pure rfl) (intE (lenM _ _))) ?_
   refine aB rfl rfl rfl ?_
   exact OpsQ.nil
 show T X _ _ _
 obtain ⟨t25, ht25, q13⟩ := bS q13
 refine T.cutC (fun S' => ∃ y26 : Value, S' = ⟨[(6, (dN s9.1)), (5, (dP (blk p2))), (2, (dP b2)), (0, .fn (.yield b0) [] [])], [.lp b0 .ready none [13, 14] rfA160_0 rfB160_0 [(3, .nod [.fn (.yield b5) [] []]), (2, (dP b4))] 40, .var b1 [dN a0] 3, .var b2 [dN a1] 3, .var b3 [(eOP a2)] 118, .var b4 [.fn (.func 159) [] [dP b6, dP b7]] 239, .lp b5 .ready none [20] rfA57_0 rfB57_0 [(14, (dP b12)), (13, (dP b11)), (12, (dP b10)), (11, (dP b9)), (10, (dP b8)), (9, .nod [dN a4]), (8, .nod [dN a3])] 38, .var b6 [dP b13] 39, .var b7 [.sl 1 (lB a5)] 25, .var b8 [dN a6] 3, .var b9 [dN a7] 3, .var b10 [dT a8] 4, .var b11 [dN s9.2.1, dN s9.2.2.1] 202, .var b12 [dT s9.2.2.2.1] 4, .var b13 [.val v14] 142, .row v14 (lB a12) 1 5, .var (blk p2) [.val y26] 272, .row y26 (List.map e_wFr t25) 3 278], 62⟩) (fun _ h => h) ?_ ?_
 · rcases ite_some ht25 with ⟨c27, ht25⟩ | ⟨c27, ht25⟩
   rotate_left
   · refine T.condF rfl (beq_eq_false_iff_ne.2 c27) ?_
     refine T.skip ?_
     obtain rfl := osi ht25
     exact ⟨_, Gst.only [0, 2, 5, 6] rfl, y8, rfl⟩
   refine T.condT rfl (beq_iff_eq.2 c27) ?_
   refine T.region ?_
   obtain ⟨x28, hx28, ht25⟩ := bS ht25
   refine TL.op (OpR.call [15, 16] fn198 (walk_stack_row_Row_forth_c hx28) rfl rfl rfl (fun _ => rfl)) rfl (fun w29 => ?_)
   refine TL.nil ?_
   obtain rfl := osi ht25
   exact ⟨_, Gst.only [0, 2, 5, 6] rfl, (vn w29 0), rfl⟩
 rintro _ ⟨y26, rfl⟩
 show T X _ _ _
 refine aS ?_
 obtain ⟨x30, hx30, q13⟩ := bS q13
 refine TL.op1 (OpR.call [15, 16] fn197 (walk_stack_row_Row_top_c hx30) rfl rfl rfl (fun _ => rfl)) rfl ?_
 refine aA rfl rfl ?_
 refine aN rfl ?_
 refine T.seq ?_
 refine T.seq ?_
 obtain ⟨x31, hx31, q13⟩ := bS q13
 obtain ⟨q32, hq32, q13⟩ := bS q13
 rcases q32 with _ | z33
 · dsimp only at q13
   exact (by cases q13)
 dsimp only at q13
 obtain ⟨x35, hx35, q13⟩ := bS q13
 rw [o_tNd_eq hx35] at hq32
 obtain ⟨x37, hx37, q13⟩ := bS q13
 obtain ⟨x38, hx38, q13⟩ := bS q13
 rcases x38 with x38 | x38
 rotate_left
 · dsimp only at q13
   refine T.drawS drawsX (fun env36 => [.fn (.yield b0) [] [], dN s9.1, .val (.pointer (some ⟨blk y26, x30.toNat * 3, none⟩)), .val (.pointer (some ⟨blk y26, x30.toNat * 3, none⟩)), .val (.pointer (some ⟨blk y26, x30.toNat * 3, none⟩)), .nod [.sl 1 (List.map eNP x35.fKids), .sl 3 (List.map e_row_Row x35.fItems), dN x35.fN], .nod [.sl 1 (List.map eNP x35.fKids), .sl 3 (List.map e_row_Row x35.fItems), dN x35.fN], .nod [.sl 3 (List.map e_row_Row x35.fItems), dN x35.fN], .sl 3 (List.map e_row_Row x35.fItems), .val (.pointer (some ⟨blk y26, x30.toNat * 3, none⟩)), .val (.pointer (some ⟨blk y26, x30.toNat * 3, none⟩)), .val (.pointer (some ⟨blk y26, x30.toNat * 3 + 2, none⟩)), dN x31.fNext, .nod [.sl 5 (List.map e_cell_Cell x37.fCells), dN x37.fEnd, dT x37.fHidden], .agg [.sl 5 (List.map e_cell_Cell x37.fCells), dN x37.fEnd, dT x37.fHidden], dT true, dT false]) (fun D env36 => [.lp b0 .ready none [13, 14] rfA160_0 rfB160_0 [(3, .nod [.fn (.yield b5) [] []]), (2, (dP b4))] 40, .var b1 [dN a0] 3, .var b2 [dN a1] 3, .var b3 [(eOP a2)] 118, .var b4 [.fn (.func 159) [] [dP b6, dP b7]] 239, .lp b5 .ready none [20] rfA57_0 rfB57_0 [(14, (dP b12)), (13, (dP b11)), (12, (dP b10)), (11, (dP b9)), (10, (dP b8)), (9, .nod [dN a4]), (8, .nod [dN a3])] 38, .var b6 [dP b13] 39, .var b7 [.sl 1 (lB a5)] 25, .var b8 [dN a6] 3, .var b9 [dN a7] 3, .var b10 [dT a8] 4, (bif D 15 then .var b11 [dN x38.1, dN x38.2.1] 202 else .var b11 [dN s9.2.1, dN s9.2.2.1] 202), (bif D 15 then .var b12 [dT x38.2.2] 4 else .var b12 [dT s9.2.2.2.1] 4), .var b13 [.val v14] 142, .row v14 (lB a12) 1 5, .var (blk p2) [.val y26] 272, .row y26 (List.map e_wFr t25) 3 278]) [0, 0, 0, 4, 12, 28, 60, 124, 252, 0, 512, 1536, 3584, 8188, 16380, 32767, 65535] [0, 2, 5, 6, 8, 54] _ (by decide +kernel) (by decide +kernel) (fun _ => rfl) (fun _ => rfl) ?_ (fun _ => rfl) (fun _ => rfl) ?_
   rotate_left
   · intro env36
     show T X _ _ _
     refine T.condF rfl rfl ?_
     refine aK rfl ?_
     refine T.region ?_
     iterate 3 refine aA rfl rfl ?_
     refine TL.op1 (OpR.rowLoadM (j := x30) e_wFr 16 hx31 rfl rfl rfl rfl) rfl ?_
     iterate 3 refine aA rfl rfl ?_
     refine TL.op0 (OpR.rowStoreM (j := x30) e_wFr (⟨x31.fN, x31.fFirst, w64 (x31.fNext + 1)⟩ : wFr) 16 hx31 rfl rfl rfl rfl rfl rfl rfl rfl rfl) ?_
     refine aN rfl ?_
     refine T.region ?_
     iterate 3 refine aA rfl rfl ?_
     refine TL.nil ?_
     obtain rfl := osi q13
     exact ⟨m11, Nat.lt_succ_self _, _, Gst.only [0, 2, 5, 6] rfl, y26, (w64 (s9.1 + 1), x38.1, x38.2.1, x38.2.2, (t25.set x30.toNat (⟨x31.fN, x31.fFirst, w64 (x31.fNext + 1)⟩ : wFr))), rfl, i14⟩
   iterate 5 refine aC ?_
   refine oT (.nod [.sl 1 (List.map eNP x35.fKids), .sl 3 (List.map e_row_Row x35.fItems), dN x35.fN]) (fun _ _ => OpR.cast (OpR.rowLoad0M (j := x30) e_wFr 16 hx31 rfl rfl rfl rfl) (congrArg eOP (osi hq32))) ?_
   iterate 6 refine aC ?_
   refine oT ((dN x31.fNext)) (fun _ _ => OpR.rowLoadM (j := x30) e_wFr 16 hx31 rfl rfl rfl rfl) ?_
   refine oT (.nod [.sl 5 (List.map e_cell_Cell x37.fCells), dN x37.fEnd, dT x37.fHidden]) (fun _ _ => OpR.indexM e_row_Row hx37 rfl rfl rfl rfl rfl) ?_
   refine aC ?_
   refine OpsS.cons' true ?_ (fun _ _ _ _ _ _ _ => rfl) ?_
   · intro D env36 hA
     exact OpS.yp [(15, false)] ⟨hA.me, trivial⟩ (Want.plain rfl) (OpR.callY [0, 4, 5, 6, 7, 8, 9, 10, 11, 12, 13, 14] rfl (find_having_2_r0_cx2 hx38) rfl rfl rfl (fun _ => rfl)) (fun x => rfl) (fun x => rfl)
   refine aC ?_
   exact trivial
 dsimp only at q13
 refine T.drawS drawsX (fun env36 => [.fn (.yield b0) [] [], dN s9.1, .val (.pointer (some ⟨blk y26, x30.toNat * 3, none⟩)), .val (.pointer (some ⟨blk y26, x30.toNat * 3, none⟩)), .val (.pointer (some ⟨blk y26, x30.toNat * 3, none⟩)), .nod [.sl 1 (List.map eNP x35.fKids), .sl 3 (List.map e_row_Row x35.fItems), dN x35.fN], .nod [.sl 1 (List.map eNP x35.fKids), .sl 3 (List.map e_row_Row x35.fItems), dN x35.fN], .nod [.sl 3 (List.map e_row_Row x35.fItems), dN x35.fN], .sl 3 (List.map e_row_Row x35.fItems), .val (.pointer (some ⟨blk y26, x30.toNat * 3, none⟩)), .val (.pointer (some ⟨blk y26, x30.toNat * 3, none⟩)), .val (.pointer (some ⟨blk y26, x30.toNat * 3 + 2, none⟩)), dN x31.fNext, .nod [.sl 5 (List.map e_cell_Cell x37.fCells), dN x37.fEnd, dT x37.fHidden], .agg [.sl 5 (List.map e_cell_Cell x37.fCells), dN x37.fEnd, dT x37.fHidden], dT false, dT true]) (fun D env36 => [(bif D 15 then .lp b0 .done (some (.ret)) [13, 14] rfA160_0 rfB160_0 [(3, .nod [.fn (.yield b5) [] []]), (2, (dP b4))] 40 else .lp b0 .ready none [13, 14] rfA160_0 rfB160_0 [(3, .nod [.fn (.yield b5) [] []]), (2, (dP b4))] 40), .var b1 [dN a0] 3, .var b2 [dN a1] 3, .var b3 [(eOP a2)] 118, .var b4 [.fn (.func 159) [] [dP b6, dP b7]] 239, (bif D 15 then .lp b5 .done (some (.ret)) [20] rfA57_0 rfB57_0 [(14, (dP b12)), (13, (dP b11)), (12, (dP b10)), (11, (dP b9)), (10, (dP b8)), (9, .nod [dN a4]), (8, .nod [dN a3])] 38 else .lp b5 .ready none [20] rfA57_0 rfB57_0 [(14, (dP b12)), (13, (dP b11)), (12, (dP b10)), (11, (dP b9)), (10, (dP b8)), (9, .nod [dN a4]), (8, .nod [dN a3])] 38), .var b6 [dP b13] 39, .var b7 [.sl 1 (lB a5)] 25, (bif D 15 then .var b8 [dN x38.1] 3 else .var b8 [dN a6] 3), (bif D 15 then .var b9 [dN x38.2.1] 3 else .var b9 [dN a7] 3), (bif D 15 then .var b10 [dT x38.2.2.1] 4 else .var b10 [dT a8] 4), (bif D 15 then .var b11 [dN x38.2.2.2.1, dN x38.2.2.2.2.1] 202 else .var b11 [dN s9.2.1, dN s9.2.2.1] 202), (bif D 15 then .var b12 [dT x38.2.2.2.2.2] 4 else .var b12 [dT s9.2.2.2.1] 4), .var b13 [.val v14] 142, .row v14 (lB a12) 1 5, .var (blk p2) [.val y26] 272, .row y26 (List.map e_wFr t25) 3 278]) [0, 0, 0, 4, 12, 28, 60, 124, 252, 0, 512, 1536, 3584, 8188, 16380, 32767, 65535] [0, 2, 5, 6, 8, 54] _ (by decide +kernel) (by decide +kernel) (fun _ => rfl) (fun _ => rfl) ?_ (fun _ => rfl) (fun _ => rfl) ?_
 rotate_left
 · intro env36
   show T X _ _ _
   refine T.condT rfl rfl ?_
   refine T.ret ?_
   obtain rfl := osi q13
   obtain rfl : _ = _ := i14
   obtain rfl := osi h0
   exact rP [0, 1, 2, 3, 4, 5, 6, 7, 8, 9, 10, 11, 12, 13, 14] [] [0, 1, 2, 3, 4, 5, 6, 7, 8, 9, 10, 11, 12, 13, 14] rfl rfl rfl undef ResL.nil rfl rfl rfl rfl
 iterate 5 refine aC ?_
 refine oT (.nod [.sl 1 (List.map eNP x35.fKids), .sl 3 (List.map e_row_Row x35.fItems), dN x35.fN]) (fun _ _ => OpR.cast (OpR.rowLoad0M (j := x30) e_wFr 16 hx31 rfl rfl rfl rfl) (congrArg eOP (osi hq32))) ?_
 iterate 6 refine aC ?_
 refine oT ((dN x31.fNext)) (fun _ _ => OpR.rowLoadM (j := x30) e_wFr 16 hx31 rfl rfl rfl rfl) ?_
 refine oT (.nod [.sl 5 (List.map e_cell_Cell x37.fCells), dN x37.fEnd, dT x37.fHidden]) (fun _ _ => OpR.indexM e_row_Row hx37 rfl rfl rfl rfl rfl) ?_
 refine aC ?_
 refine OpsS.cons' true ?_ (fun _ _ _ _ _ _ _ => rfl) ?_
 · intro D env36 hA
   exact OpS.yp [(15, false)] ⟨hA.me, trivial⟩ (Want.plain rfl) (OpR.callY [0, 4, 5, 6, 7, 8, 9, 10, 11, 12, 13, 14] rfl (find_having_2_r0_cx1 hx38) rfl rfl rfl (fun _ => rfl)) (fun x => rfl) (fun x => rfl)
 refine aC ?_
 exact trivial
theorem walk_Range_row_Row_1_cx1 {a0 : Int} {a1 : Int} {a2 : Option NP} {a3 : Int} {a4 : Int} {a5 : List UInt8} {a6 : Int} {a7 : Int} {a8 : Bool} {a9 : Int} {a10 : Int} {a11 : Bool} {a12 : List UInt8} {b0 : Nat} {b1 : Nat} {b2 : Nat} {b3 : Nat} {b4 : Nat} {b5 : Nat} {b6 : Nat} {b7 : Nat} {b8 : Nat} {b9 : Nat} {b10 : Nat} {b11 : Nat} {b12 : Nat} {b13 : Nat} {v14 : Value} {res : Int × Int × Bool} (h0 : walk_Range_row_Row_1 a0 a1 a2 a3 a4 a5 a6 a7 a8 a9 a10 a11 a12 = some (Sum.inl res)) : CallF X 194 [.fn (.yield b0) [] [], dP b1, dP b2, dP b3] [.lp b0 .ready none [13, 14] rfA160_0 rfB160_0 [(3, .nod [.fn (.yield b5) [] []]), (2, (dP b4))] 40, .var b1 [dN a0] 3, .var b2 [dN a1] 3, .var b3 [(eOP a2)] 118, .var b4 [.fn (.func 159) [] [dP b6, dP b7]] 239, .lp b5 .ready none [20] rfA57_0 rfB57_0 [(14, (dP b12)), (13, (dP b11)), (12, (dP b10)), (11, (dP b9)), (10, (dP b8)), (9, .nod [dN a4]), (8, .nod [dN a3])] 38, .var b6 [dP b13] 39, .var b7 [.sl 1 (lB a5)] 25, .var b8 [dN a6] 3, .var b9 [dN a7] 3, .var b10 [dT a8] 4, .var b11 [dN a9, dN a10] 202, .var b12 [dT a11] 4, .var b13 [.val v14] 142, .row v14 (lB a12) 1 5] (fun x => .tup []) (fun x => [.lp b0 .ready none [13, 14] rfA160_0 rfB160_0 [(3, .nod [.fn (.yield b5) [] []]), (2, (dP b4))] 40, .var b1 [dN a0] 3, .var b2 [dN a1] 3, .var b3 [(eOP a2)] 118, .var b4 [.fn (.func 159) [] [dP b6, dP b7]] 239, .lp b5 .ready none [20] rfA57_0 rfB57_0 [(14, (dP b12)), (13, (dP b11)), (12, (dP b10)), (11, (dP b9)), (10, (dP b8)), (9, .nod [dN a4]), (8, .nod [dN a3])] 38, .var b6 [dP b13] 39, .var b7 [.sl 1 (lB a5)] 25, .var b8 [dN a6] 3, .var b9 [dN a7] 3, .var b10 [dT a8] 4, .var b11 [dN res.1, dN res.2.1] 202, .var b12 [dT res.2.2] 4, .var b13 [.val v14] 142, .row v14 (lB a12) 1 5]) := walk_Range_row_Row_1_c h0
theorem walk_Range_row_Row_1_cx2 {a0 : Int} {a1 : Int} {a2 : Option NP} {a3 : Int} {a4 : Int} {a5 : List UInt8} {a6 : Int} {a7 : Int} {a8 : Bool} {a9 : Int} {a10 : Int} {a11 : Bool} {a12 : List UInt8} {b0 : Nat} {b1 : Nat} {b2 : Nat} {b3 : Nat} {b4 : Nat} {b5 : Nat} {b6 : Nat} {b7 : Nat} {b8 : Nat} {b9 : Nat} {b10 : Nat} {b11 : Nat} {b12 : Nat} {b13 : Nat} {v14 : Value} {res : Int × Int × Bool × Int × Int × Bool} (h0 : walk_Range_row_Row_1 a0 a1 a2 a3 a4 a5 a6 a7 a8 a9 a10 a11 a12 = some (Sum.inr res)) : CallF X 194 [.fn (.yield b0) [] [], dP b1, dP b2, dP b3] [.lp b0 .ready none [13, 14] rfA160_0 rfB160_0 [(3, .nod [.fn (.yield b5) [] []]), (2, (dP b4))] 40, .var b1 [dN a0] 3, .var b2 [dN a1] 3, .var b3 [(eOP a2)] 118, .var b4 [.fn (.func 159) [] [dP b6, dP b7]] 239, .lp b5 .ready none [20] rfA57_0 rfB57_0 [(14, (dP b12)), (13, (dP b11)), (12, (dP b10)), (11, (dP b9)), (10, (dP b8)), (9, .nod [dN a4]), (8, .nod [dN a3])] 38, .var b6 [dP b13] 39, .var b7 [.sl 1 (lB a5)] 25, .var b8 [dN a6] 3, .var b9 [dN a7] 3, .var b10 [dT a8] 4, .var b11 [dN a9, dN a10] 202, .var b12 [dT a11] 4, .var b13 [.val v14] 142, .row v14 (lB a12) 1 5] (fun x => .tup []) (fun x => [.lp b0 .done (some (.ret)) [13, 14] rfA160_0 rfB160_0 [(3, .nod [.fn (.yield b5) [] []]), (2, (dP b4))] 40, .var b1 [dN a0] 3, .var b2 [dN a1] 3, .var b3 [(eOP a2)] 118, .var b4 [.fn (.func 159) [] [dP b6, dP b7]] 239, .lp b5 .done (some (.ret)) [20] rfA57_0 rfB57_0 [(14, (dP b12)), (13, (dP b11)), (12, (dP b10)), (11, (dP b9)), (10, (dP b8)), (9, .nod [dN a4]), (8, .nod [dN a3])] 38, .var b6 [dP b13] 39, .var b7 [.sl 1 (lB a5)] 25, .var b8 [dN res.1] 3, .var b9 [dN res.2.1] 3, .var b10 [dT res.2.2.1] 4, .var b11 [dN res.2.2.2.1, dN res.2.2.2.2.1] 202, .var b12 [dT res.2.2.2.2.2] 4, .var b13 [.val v14] 142, .row v14 (lB a12) 1 5]) := walk_Range_row_Row_1_c h0
noncomputable def find_having_2 (a0 : Int) (a1 : Int) (a2 : Option NP) (a3 : Bool) (a4 : Int) (a5 : Int) (a6 : Int) (a7 : Bool) (a8 : Int) (a9 : Int) (a10 : Bool) (a11 : List UInt8) (a12 : List UInt8) : Option ((Int × Int × Bool) ⊕ (Int × Int × Bool × Int × Int × Bool)) :=
  bnd (grid_Grid_Len (⟨(⟨a2⟩ : tTr), a3, a4⟩ : grid_Grid)) fun x2 =>
  bnd (walk_Range_row_Row (⟨a2⟩ : tTr) 0 x2) fun x3 =>
  bnd (walk_Range_row_Row_1 x3.1 x3.2.1 x3.2.2 a0 a1 a11 a5 a6 a7 a8 a9 a10 a12) fun x5 =>
  match x5 with
  | .inl x5 =>
      some (Sum.inl (x5.1, x5.2.1, x5.2.2))
  | .inr x5 =>
      some (Sum.inr (x5.1, x5.2.1, x5.2.2.1, x5.2.2.2.1, x5.2.2.2.2.1, x5.2.2.2.2.2))
theorem find_having_2_c {a0 : Int} {a1 : Int} {a2 : Option NP} {a3 : Bool} {a4 : Int} {a5 : Int} {a6 : Int} {a7 : Bool} {a8 : Int} {a9 : Int} {a10 : Bool} {a11 : List UInt8} {a12 : List UInt8} {b0 : Nat} {b1 : Nat} {b2 : Nat} {b3 : Nat} {b4 : Nat} {b5 : Nat} {b6 : Nat} {b7 : Nat} {b8 : Nat} {b9 : Nat} {b10 : Nat} {v11 : Value} {res : (Int × Int × Bool) ⊕ (Int × Int × Bool × Int × Int × Bool)} (h0 : find_having_2 a0 a1 a2 a3 a4 a5 a6 a7 a8 a9 a10 a11 a12 = some res) : CallF X 160 [.fn (.yield b0) [] [], dP b1, dP b2] [.lp b0 .ready none [20] rfA57_0 rfB57_0 [(14, (dP b7)), (13, (dP b6)), (12, (dP b5)), (11, (dP b4)), (10, (dP b3)), (9, .nod [dN a1]), (8, .nod [dN a0])] 38, .var b1 [(eOP a2), dT a3, dN a4] 120, .var b2 [.fn (.func 159) [] [dP b8, dP b9]] 239, .var b3 [dN a5] 3, .var b4 [dN a6] 3, .var b5 [dT a7] 4, .var b6 [dN a8, dN a9] 202, .var b7 [dT a10] 4, .var b8 [dP b10] 39, .var b9 [.sl 1 (lB a11)] 25, .var b10 [.val v11] 142, .row v11 (lB a12) 1 5] (fun x => (match res with | .inl res => .tup [] | .inr res => .tup [])) (fun x => (match res with | .inl res => [.lp b0 .ready none [20] rfA57_0 rfB57_0 [(14, (dP b7)), (13, (dP b6)), (12, (dP b5)), (11, (dP b4)), (10, (dP b3)), (9, .nod [dN a1]), (8, .nod [dN a0])] 38, .var b1 [(eOP a2), dT a3, dN a4] 120, .var b2 [.fn (.func 159) [] [dP b8, dP b9]] 239, .var b3 [dN a5] 3, .var b4 [dN a6] 3, .var b5 [dT a7] 4, .var b6 [dN res.1, dN res.2.1] 202, .var b7 [dT res.2.2] 4, .var b8 [dP b10] 39, .var b9 [.sl 1 (lB a11)] 25, .var b10 [.val v11] 142, .row v11 (lB a12) 1 5] | .inr res => [.lp b0 .done (some (.ret)) [20] rfA57_0 rfB57_0 [(14, (dP b7)), (13, (dP b6)), (12, (dP b5)), (11, (dP b4)), (10, (dP b3)), (9, .nod [dN a1]), (8, .nod [dN a0])] 38, .var b1 [(eOP a2), dT a3, dN a4] 120, .var b2 [.fn (.func 159) [] [dP b8, dP b9]] 239, .var b3 [dN res.1] 3, .var b4 [dN res.2.1] 3, .var b5 [dT res.2.2.1] 4, .var b6 [dN res.2.2.2.1, dN res.2.2.2.2.1] 202, .var b7 [dT res.2.2.2.2.2] 4, .var b8 [dP b10] 39, .var b9 [.sl 1 (lB a11)] 25, .var b10 [.val v11] 142, .row v11 (lB a12) 1 5])) := by
 unfold find_having_2 at h0
 refine CallF.mkG (X := X) rfl Try.func160 rfl rfl Try.ntmps160 rfl rfl ?_
 refine aS ?_
 refine TL.op1 (OpR.boxImm rfl rfl) rfl ?_
 refine aN rfl ?_
 refine T.seq ?_
 obtain ⟨x2, hx2, h0⟩ := bS h0
 obtain ⟨x3, hx3, h0⟩ := bS h0
 refine T.drawS drawsX (fun env1 => [dP b1, .agg [(eOP a2)], .agg [(eOP a2), dT a3, dN a4], dN x2, .fn (.func 194) [] [dP (blk (vn (env1 4) 0)), dP (blk (vn (env1 4) 1)), dP (blk (vn (env1 4) 2))]]) (fun D env1 => [.lp b0 .ready none [20] rfA57_0 rfB57_0 [(14, (dP b7)), (13, (dP b6)), (12, (dP b5)), (11, (dP b4)), (10, (dP b3)), (9, .nod [dN a1]), (8, .nod [dN a0])] 38, .var b1 [(eOP a2), dT a3, dN a4] 120, .var b2 [.fn (.func 159) [] [dP b8, dP b9]] 239, .var b3 [dN a5] 3, .var b4 [dN a6] 3, .var b5 [dT a7] 4, .var b6 [dN a8, dN a9] 202, .var b7 [dT a10] 4, .var b8 [dP b10] 39, .var b9 [.sl 1 (lB a11)] 25, .var b10 [.val v11] 142, .row v11 (lB a12) 1 5] ++ (bif D 4 then [.var (blk (vn (env1 4) 0)) [dN x3.1] 3] else []) ++ (bif D 4 then [.var (blk (vn (env1 4) 1)) [dN x3.2.1] 3] else []) ++ (bif D 4 then [.var (blk (vn (env1 4) 2)) [(eOP x3.2.2)] 118] else [])) [0, 1, 0, 4, 15] [2, 3, 12] _ (by decide +kernel) (by decide +kernel) (fun _ => rfl) (fun _ => rfl) ?_ (fun _ => rfl) (fun _ => rfl) ?_
 · refine aC ?_
   refine oT (.agg [(eOP a2)]) (fun _ _ => OpR.loadPtr 1 rfl rfl rfl rfl) ?_
   refine oT (.agg [(eOP a2), dT a3, dN a4]) (fun _ _ => OpR.loadPtr 1 rfl rfl rfl rfl) ?_
   refine oT ((dN x2)) (fun _ _ => OpR.call0 fn104 (grid_Grid_Len_c hx2) rfl) ?_
   refine OpsS.cons' true ?_ (fun D hA env1 x j hj hD => match j, hj, hD with | 0, _, _ => rfl | 1, _, _ => rfl | 2, _, _ => rfl | 3, _, _ => rfl | 4, hj, _ => absurd rfl hj | _ + 5, _, _ => rfl) ?_
   · intro D env1 hA
     exact OpS.yp [(4, false)] ⟨hA.me, trivial⟩ (Want.plain rfl) (OpR.call [] fn161 (walk_Range_row_Row_c hx3) rfl rfl rfl (fun _ => rfl)) (fun x => rfl) (fun x => rfl)
   exact trivial
 intro env1
 show T X _ _ _
 refine T.block ?_
 obtain ⟨x5, hx5, h0⟩ := bS h0
 rcases x5 with x5 | x5
 · dsimp only at h0
   refine T.rangeN (A := rfA160_0) (B := rfB160_0) (ow1 := fun w6 => [.lp b0 .ready none [20] rfA57_0 rfB57_0 [(14, (dP b7)), (13, (dP b6)), (12, (dP b5)), (11, (dP b4)), (10, (dP b3)), (9, .nod [dN a1]), (8, .nod [dN a0])] 38, .var b1 [(eOP a2), dT a3, dN a4] 120, .var b2 [.fn (.func 159) [] [dP b8, dP b9]] 239, .var b3 [dN a5] 3, .var b4 [dN a6] 3, .var b5 [dT a7] 4, .var b6 [dN x5.1, dN x5.2.1] 202, .var b7 [dT x5.2.2] 4, .var b8 [dP b10] 39, .var b9 [.sl 1 (lB a11)] 25, .var b10 [.val v11] 142, .row v11 (lB a12) 1 5, .var (blk (vn (env1 4) 0)) [dN x3.1] 3, .var (blk (vn (env1 4) 1)) [dN x3.2.1] 3, .var (blk (vn (env1 4) 2)) [(eOP x3.2.2)] 118]) [2, 3] [12, 13, 14, 2, 0, 8, 9, 3, 4, 5, 6, 7, 10, 11] (.inl rfl) rfl rfl rfl rfl rfl fn194 rfl rfl (fun l4 => (walk_Range_row_Row_1_cx1 hx5)) (fun _ => by kernel_rfl) (fun w6 => ?_)
   obtain rfl := osi h0
   exact PostG.finP (ks := [0, 1, 2, 3, 4, 5, 6, 7, 8, 9, 10, 11]) (gP [] [0, 1, 2, 3, 4, 5, 6, 7, 8, 9, 10, 11] rfl rfl rfl) undef ResL.nil rfl rfl rfl rfl
 dsimp only at h0
 refine T.rangeJ (A := rfA160_0) (B := rfB160_0) (ow1 := fun w7 => [.lp b0 .done (some (.ret)) [20] rfA57_0 rfB57_0 [(14, (dP b7)), (13, (dP b6)), (12, (dP b5)), (11, (dP b4)), (10, (dP b3)), (9, .nod [dN a1]), (8, .nod [dN a0])] 38, .var b1 [(eOP a2), dT a3, dN a4] 120, .var b2 [.fn (.func 159) [] [dP b8, dP b9]] 239, .var b3 [dN x5.1] 3, .var b4 [dN x5.2.1] 3, .var b5 [dT x5.2.2.1] 4, .var b6 [dN x5.2.2.2.1, dN x5.2.2.2.2.1] 202, .var b7 [dT x5.2.2.2.2.2] 4, .var b8 [dP b10] 39, .var b9 [.sl 1 (lB a11)] 25, .var b10 [.val v11] 142, .row v11 (lB a12) 1 5, .var (blk (vn (env1 4) 0)) [dN x3.1] 3, .var (blk (vn (env1 4) 1)) [dN x3.2.1] 3, .var (blk (vn (env1 4) 2)) [(eOP x3.2.2)] 118]) (.ret) [2, 3] [12, 13, 14, 2, 0, 8, 9, 3, 4, 5, 6, 7, 10, 11] (.inl rfl) rfl rfl rfl rfl rfl fn194 rfl rfl (fun l4 => (walk_Range_row_Row_1_cx2 hx5)) (fun _ => by kernel_rfl) (fun w7 => ?_)
 refine T.ret ?_
 obtain rfl := osi h0
 exact rP [0, 1, 2, 3, 4, 5, 6, 7, 8, 9, 10, 11] [] [0, 1, 2, 3, 4, 5, 6, 7, 8, 9, 10, 11] rfl rfl rfl undef ResL.nil rfl rfl rfl rfl
theorem find_having_2_cx1 {a0 : Int} {a1 : Int} {a2 : Option NP} {a3 : Bool} {a4 : Int} {a5 : Int} {a6 : Int} {a7 : Bool} {a8 : Int} {a9 : Int} {a10 : Bool} {a11 : List UInt8} {a12 : List UInt8} {b0 : Nat} {b1 : Nat} {b2 : Nat} {b3 : Nat} {b4 : Nat} {b5 : Nat} {b6 : Nat} {b7 : Nat} {b8 : Nat} {b9 : Nat} {b10 : Nat} {v11 : Value} {res : Int × Int × Bool} (h0 : find_having_2 a0 a1 a2 a3 a4 a5 a6 a7 a8 a9 a10 a11 a12 = some (Sum.inl res)) : CallF X 160 [.fn (.yield b0) [] [], dP b1, dP b2] [.lp b0 .ready none [20] rfA57_0 rfB57_0 [(14, (dP b7)), (13, (dP b6)), (12, (dP b5)), (11, (dP b4)), (10, (dP b3)), (9, .nod [dN a1]), (8, .nod [dN a0])] 38, .var b1 [(eOP a2), dT a3, dN a4] 120, .var b2 [.fn (.func 159) [] [dP b8, dP b9]] 239, .var b3 [dN a5] 3, .var b4 [dN a6] 3, .var b5 [dT a7] 4, .var b6 [dN a8, dN a9] 202, .var b7 [dT a10] 4, .var b8 [dP b10] 39, .var b9 [.sl 1 (lB a11)] 25, .var b10 [.val v11] 142, .row v11 (lB a12) 1 5] (fun x => .tup []) (fun x => [.lp b0 .ready none [20] rfA57_0 rfB57_0 [(14, (dP b7)), (13, (dP b6)), (12, (dP b5)), (11, (dP b4)), (10, (dP b3)), (9, .nod [dN a1]), (8, .nod [dN a0])] 38, .var b1 [(eOP a2), dT a3, dN a4] 120, .var b2 [.fn (.func 159) [] [dP b8, dP b9]] 239, .var b3 [dN a5] 3, .var b4 [dN a6] 3, .var b5 [dT a7] 4, .var b6 [dN res.1, dN res.2.1] 202, .var b7 [dT res.2.2] 4, .var b8 [dP b10] 39, .var b9 [.sl 1 (lB a11)] 25, .var b10 [.val v11] 142, .row v11 (lB a12) 1 5]) := find_having_2_c h0
theorem find_having_2_cx2 {a0 : Int} {a1 : Int} {a2 : Option NP} {a3 : Bool} {a4 : Int} {a5 : Int} {a6 : Int} {a7 : Bool} {a8 : Int} {a9 : Int} {a10 : Bool} {a11 : List UInt8} {a12 : List UInt8} {b0 : Nat} {b1 : Nat} {b2 : Nat} {b3 : Nat} {b4 : Nat} {b5 : Nat} {b6 : Nat} {b7 : Nat} {b8 : Nat} {b9 : Nat} {b10 : Nat} {v11 : Value} {res : Int × Int × Bool × Int × Int × Bool} (h0 : find_having_2 a0 a1 a2 a3 a4 a5 a6 a7 a8 a9 a10 a11 a12 = some (Sum.inr res)) : CallF X 160 [.fn (.yield b0) [] [], dP b1, dP b2] [.lp b0 .ready none [20] rfA57_0 rfB57_0 [(14, (dP b7)), (13, (dP b6)), (12, (dP b5)), (11, (dP b4)), (10, (dP b3)), (9, .nod [dN a1]), (8, .nod [dN a0])] 38, .var b1 [(eOP a2), dT a3, dN a4] 120, .var b2 [.fn (.func 159) [] [dP b8, dP b9]] 239, .var b3 [dN a5] 3, .var b4 [dN a6] 3, .var b5 [dT a7] 4, .var b6 [dN a8, dN a9] 202, .var b7 [dT a10] 4, .var b8 [dP b10] 39, .var b9 [.sl 1 (lB a11)] 25, .var b10 [.val v11] 142, .row v11 (lB a12) 1 5] (fun x => .tup []) (fun x => [.lp b0 .done (some (.ret)) [20] rfA57_0 rfB57_0 [(14, (dP b7)), (13, (dP b6)), (12, (dP b5)), (11, (dP b4)), (10, (dP b3)), (9, .nod [dN a1]), (8, .nod [dN a0])] 38, .var b1 [(eOP a2), dT a3, dN a4] 120, .var b2 [.fn (.func 159) [] [dP b8, dP b9]] 239, .var b3 [dN res.1] 3, .var b4 [dN res.2.1] 3, .var b5 [dT res.2.2.1] 4, .var b6 [dN res.2.2.2.1, dN res.2.2.2.2.1] 202, .var b7 [dT res.2.2.2.2.2] 4, .var b8 [dP b10] 39, .var b9 [.sl 1 (lB a11)] 25, .var b10 [.val v11] 142, .row v11 (lB a12) 1 5]) := find_having_2_c h0
noncomputable def find_Next (a0 : grid_Grid) (a1 : List UInt8) (a2 : Int) (a3 : Int) (a4 : List UInt8) : Option (Int × Int × Bool) :=
  bnd (find_having a0 a1 a4) fun x6 =>
  bnd (find_having_2 a2 a3 x6.1 x6.2.1 x6.2.2.1 0 0 false 0 0 false x6.2.2.2 a4) fun x9 =>
  match x9 with
  | .inl x9 =>
      some (x9.1, x9.2.1, x9.2.2)
  | .inr x9 =>
      some (x9.1, x9.2.1, x9.2.2.1)
theorem find_Next_c {a0 : grid_Grid} {a1 : List UInt8} {a2 : Int} {a3 : Int} {a4 : List UInt8} {b0 : Nat} {v1 : Value} {res : Int × Int × Bool} (h0 : find_Next a0 a1 a2 a3 a4 = some res) : CallF X 57 [.agg [(eOP a0.fRows.fRoot), dT a0.fTail, dN a0.fEnd], dP b0, .sl 1 (lB a1), dN a2, dN a3] [.var b0 [.val v1] 142, .row v1 (lB a4) 1 5] (fun x => .tup [dN res.1, dN res.2.1, dT res.2.2]) (fun x => [.var b0 [.val v1] 142, .row v1 (lB a4) 1 5]) := by
 unfold find_Next at h0
 refine CallF.mkG (X := X) rfl Try.func57 rfl rfl Try.ntmps57 rfl rfl ?_
 refine aS ?_
 refine TL.op1 (OpR.boxImm rfl rfl) rfl ?_
 refine TL.op1 (OpR.boxImm rfl rfl) rfl ?_
 refine TL.op1 (OpR.boxImm rfl rfl) rfl ?_
 refine TL.op (OpR.alloc rfl rfl (fun _ => rfl)) rfl (fun p1 => ?_)
 refine TL.op (OpR.alloc rfl rfl (fun _ => rfl)) rfl (fun p2 => ?_)
 refine TL.op (OpR.alloc rfl rfl (fun _ => rfl)) rfl (fun p3 => ?_)
 refine aN rfl ?_
 refine aS ?_
 refine TL.op (OpR.alloc rfl rfl (fun _ => rfl)) rfl (fun p4 => ?_)
 refine aN rfl ?_
 refine aS ?_
 refine TL.op (OpR.alloc rfl rfl (fun _ => rfl)) rfl (fun p5 => ?_)
 refine TL.op0 (OpR.store 6 rfl rfl rfl rfl rfl rfl rfl rfl) ?_
 refine aN rfl ?_
 refine T.seq ?_
 refine aS ?_
 iterate 3 refine aA rfl rfl ?_
 obtain ⟨x6, hx6, h0⟩ := bS h0
 refine TL.op (OpR.call [0, 1] fn108 (find_having_c hx6) rfl rfl rfl (fun _ => rfl)) rfl (fun w7 => ?_)
 refine aN rfl ?_
 refine T.block ?_
 obtain ⟨x9, hx9, h0⟩ := bS h0
 rcases x9 with x9 | x9
 rotate_left
 · dsimp only at h0
   refine T.rangeJ (A := rfA57_0) (B := rfB57_0) (ow1 := fun w12 => [.var b0 [.val v1] 142, .row v1 (lB a4) 1 5, .var (blk p1) [dN x9.1] 3, .var (blk p2) [dN x9.2.1] 3, .var (blk p3) [dT x9.2.2.1] 4, .var (blk p4) [dN x9.2.2.2.1, dN x9.2.2.2.2.1] 202, .var (blk p5) [dT x9.2.2.2.2.2] 4, .var (blk (vn w7 0)) [(eOP x6.1), dT x6.2.1, dN x6.2.2.1] 120, .var (blk (vn w7 1)) [.fn (.func 159) [] [dP (blk (vn w7 2)), dP (blk (vn w7 3))]] 239, .var (blk (vn w7 2)) [dP b0] 39, .var (blk (vn w7 3)) [.sl 1 (lB x6.2.2.2)] 25]) (.ret) [8, 9, 10, 11, 12, 13, 14] [7, 8, 2, 3, 4, 5, 6, 9, 10, 0, 1] (.inl rfl) rfl rfl rfl rfl rfl fn160 rfl rfl (fun l8 => (find_having_2_cx2 hx9)) (fun _ => by kernel_rfl) (fun w12 => ?_)
   refine T.ret ?_
   obtain rfl := osi h0
   exact rP [0, 1] [10, 11, 12] [0, 1, 2, 3, 4] rfl rfl rfl undef (cV 2 rfl rfl rfl rfl (cV 3 rfl rfl rfl rfl (cV 4 rfl rfl rfl rfl ResL.nil))) rfl rfl rfl rfl
 dsimp only at h0
 refine T.rangeN (A := rfA57_0) (B := rfB57_0) (ow1 := fun w10 => [.var b0 [.val v1] 142, .row v1 (lB a4) 1 5, .var (blk p1) [dN 0] 3, .var (blk p2) [dN 0] 3, .var (blk p3) [dT false] 4, .var (blk p4) [dN x9.1, dN x9.2.1] 202, .var (blk p5) [dT x9.2.2] 4, .var (blk (vn w7 0)) [(eOP x6.1), dT x6.2.1, dN x6.2.2.1] 120, .var (blk (vn w7 1)) [.fn (.func 159) [] [dP (blk (vn w7 2)), dP (blk (vn w7 3))]] 239, .var (blk (vn w7 2)) [dP b0] 39, .var (blk (vn w7 3)) [.sl 1 (lB x6.2.2.2)] 25]) [8, 9, 10, 11, 12, 13, 14] [7, 8, 2, 3, 4, 5, 6, 9, 10, 0, 1] (.inl rfl) rfl rfl rfl rfl rfl fn160 rfl rfl (fun l8 => (find_having_2_cx1 hx9)) (fun _ => by kernel_rfl) (fun w10 => ?_)
 show T X _ _ _
 refine T.seq ?_
 refine T.drawS drawsX (fun env11 => [dP (blk p4), dN x9.1, .val (.pointer (some ⟨(blk p4), 1, none⟩)), dN x9.2.1, dT x9.2.2, .dead, .dead, .dead]) (fun D env11 => [.var b0 [.val v1] 142, .row v1 (lB a4) 1 5, (bif D 5 then .var (blk p1) [dN x9.1] 3 else .var (blk p1) [dN 0] 3), (bif D 6 then .var (blk p2) [dN x9.2.1] 3 else .var (blk p2) [dN 0] 3), (bif D 7 then .var (blk p3) [dT x9.2.2] 4 else .var (blk p3) [dT false] 4), .var (blk p4) [dN x9.1, dN x9.2.1] 202, .var (blk p5) [dT x9.2.2] 4, .var (blk (vn w7 0)) [(eOP x6.1), dT x6.2.1, dN x6.2.2.1] 120, .var (blk (vn w7 1)) [.fn (.func 159) [] [dP (blk (vn w7 2)), dP (blk (vn w7 3))]] 239, .var (blk (vn w7 2)) [dP b0] 39, .var (blk (vn w7 3)) [.sl 1 (lB x6.2.2.2)] 25]) [0, 1, 0, 4, 0, 3, 47, 127] [10, 11, 12] _ (by decide +kernel) (by decide +kernel) (fun _ => rfl) (fun _ => rfl) ?_ (fun _ => rfl) (fun _ => rfl) ?_
 rotate_left
 · intro env11
   show T X _ _ _
   refine T.ret ?_
   obtain rfl := osi h0
   exact rP [0, 1] [10, 11, 12] [0, 1, 2, 3, 4] rfl rfl rfl undef (cV 2 rfl rfl rfl rfl (cV 3 rfl rfl rfl rfl (cV 4 rfl rfl rfl rfl ResL.nil))) rfl rfl rfl rfl
 refine aC ?_
 refine oT ((dN x9.1)) (fun _ _ => OpR.loadPtr 5 rfl rfl rfl rfl) ?_
 refine aC ?_
 refine oT ((dN x9.2.1)) (fun _ _ => OpR.loadPtr 5 rfl rfl rfl rfl) ?_
 refine oT ((dT x9.2.2)) (fun _ _ => OpR.loadPtr 6 rfl rfl rfl rfl) ?_
 refine OpsS.cons' true ?_ (fun _ _ _ _ _ _ _ => rfl) ?_
 · intro D env11 hA
   have e6 : D 6 = false := hA.no 6 _ rfl rfl
   have e7 : D 7 = false := hA.no 7 _ rfl rfl
   exact OpS.yp [(6, false), (7, false), (5, false)] ⟨e6, e7, hA.me, trivial⟩ (Want.plain rfl) (OpR.store 2 rfl rfl rfl rfl rfl rfl rfl rfl) (fun x => rfl) (fun x => rfl)
 refine OpsS.cons' true ?_ (fun _ _ _ _ _ _ _ => rfl) ?_
 · intro D env11 hA
   have e5 : D 5 = true := hA.yes 5 _ rfl rfl
   have e7 : D 7 = false := hA.no 7 _ rfl rfl
   exact OpS.yp [(5, true), (7, false), (6, false)] ⟨e5, e7, hA.me, trivial⟩ (Want.plain rfl) (OpR.store 3 rfl rfl rfl rfl rfl rfl rfl rfl) (fun x => rfl) (fun x => rfl)
 refine OpsS.cons' true ?_ (fun _ _ _ _ _ _ _ => rfl) ?_
 · intro D env11 hA
   have e5 : D 5 = true := hA.yes 5 _ rfl rfl
   have e6 : D 6 = true := hA.yes 6 _ rfl rfl
   exact OpS.yp [(5, true), (6, true), (7, false)] ⟨e5, e6, hA.me, trivial⟩ (Want.plain rfl) (OpR.store 4 rfl rfl rfl rfl rfl rfl rfl rfl) (fun x => rfl) (fun x => rfl)
 exact trivial
noncomputable def find_Prev_r0 (a0 : find_spot) (a1 : Int) (a2 : Int) (a3 : Int) (a4 : Int) (a5 : Bool) (a6 : Bool) (a7 : Int) (a8 : Int) : Option (Int × Int × Int × Int × Bool × Bool) :=
  bnd (find_spot_behind (⟨a7, a8⟩ : find_spot) a0) fun x32 =>
  bnd (if x32 = true then
    some (a0.fR, a0.fC, true)
  else
    some (a1, a2, a5) : Option (Int × Int × Bool)) fun t33 =>
  some (t33.1, t33.2.1, a0.fR, a0.fC, t33.2.2, true)
theorem find_Prev_r0_c {a0 : find_spot} {a1 : Int} {a2 : Int} {a3 : Int} {a4 : Int} {a5 : Bool} {a6 : Bool} {a7 : Int} {a8 : Int} {b0 : Nat} {b1 : Nat} {b2 : Nat} {b3 : Nat} {b4 : Nat} {b5 : Nat} {res : Int × Int × Int × Int × Bool × Bool} (h0 : find_Prev_r0 a0 a1 a2 a3 a4 a5 a6 a7 a8 = some res) : RoundF X b0 [.agg [dN a0.fR, dN a0.fC]] [.lp b0 .ready none [26] rfA58_0 rfB58_0 [(17, (dP b5)), (16, (dP b4)), (15, (dP b3)), (14, (dP b2)), (13, (dP b1))] 39, .var b1 [dN a1, dN a2] 202, .var b2 [dN a3, dN a4] 202, .var b3 [dT a5] 4, .var b4 [dT a6] 4, .var b5 [dN a7, dN a8] 202] (fun x => (dT true)) (fun x => [.lp b0 .ready none [26] rfA58_0 rfB58_0 [(17, (dP b5)), (16, (dP b4)), (15, (dP b3)), (14, (dP b2)), (13, (dP b1))] 39, .var b1 [dN res.1, dN res.2.1] 202, .var b2 [dN res.2.2.1, dN res.2.2.2.1] 202, .var b3 [dT res.2.2.2.2.1] 4, .var b4 [dT res.2.2.2.2.2] 4, .var b5 [dN a7, dN a8] 202]) := by
 unfold find_Prev_r0 at h0
 refine RoundF.mk (X := X) rfl rfl rfl ?_
 refine T.region ?_
 refine TL.op (OpR.alloc rfl rfl (fun _ => rfl)) rfl (fun p31 => ?_)
 refine TL.op0 (OpR.store 6 rfl rfl rfl rfl rfl rfl rfl rfl) ?_
 refine TL.nil ?_
 refine RoundA.mk ?_
 refine T.block ?_
 refine T.seq ?_
 refine aS ?_
 refine TL.op1 (OpR.loadPtr 5 rfl rfl rfl rfl) rfl ?_
 refine TL.op1 (OpR.loadPtr 6 rfl rfl rfl rfl) rfl ?_
 obtain ⟨x32, hx32, h0⟩ := bS h0
 refine TL.op1 (OpR.call0 fn109 (find_spot_behind_c hx32) rfl) rfl ?_
 refine TL.nil ?_
 show T (X.inR b0) _ _ _
 obtain ⟨t33, ht33, h0⟩ := bS h0
 refine T.cutC (fun S' => S' = ⟨[(18, (dP (blk p31))), (16, (dP b4)), (14, (dP b2))], [.lp b0 .busy none [26] rfA58_0 rfB58_0 [(17, (dP b5)), (16, (dP b4)), (15, (dP b3)), (14, (dP b2)), (13, (dP b1))] 39, .var b1 [dN t33.1, dN t33.2.1] 202, .var b2 [dN a3, dN a4] 202, .var b3 [dT t33.2.2] 4, .var b4 [dT a6] 4, .var b5 [dN a7, dN a8] 202, .var (blk p31) [dN a0.fR, dN a0.fC] 202], 39⟩) (fun _ h => h) ?_ ?_
 rotate_left
 · rintro _ rfl
   show T (X.inR b0) _ _ _
   refine T.region ?_
   refine TL.op1 (OpR.loadPtr 6 rfl rfl rfl rfl) rfl ?_
   refine TL.op0 (OpR.store 2 rfl rfl rfl rfl rfl rfl rfl rfl) ?_
   refine TL.op0 (OpR.store 4 rfl rfl rfl rfl rfl rfl rfl rfl) ?_
   refine TL.nil ?_
   obtain rfl := osi h0
   exact RoundG.mk (ks := [0, 1, 2, 3, 4, 5]) (gP [] [0, 1, 2, 3, 4, 5] rfl rfl rfl) undef rfl rfl rfl rfl rfl
 rcases ite_some ht33 with ⟨c34, ht33⟩ | ⟨c34, ht33⟩
 rotate_left
 · refine T.condF rfl (eq_false_of_ne_true c34) ?_
   refine T.skip ?_
   obtain rfl := osi ht33
   exact ⟨_, Gst.only [14, 16, 18] rfl, rfl⟩
 refine T.condT rfl (c34) ?_
 refine T.region ?_
 refine TL.op1 (OpR.loadPtr 6 rfl rfl rfl rfl) rfl ?_
 refine TL.op0 (OpR.store 1 rfl rfl rfl rfl rfl rfl rfl rfl) ?_
 refine TL.op0 (OpR.store 3 rfl rfl rfl rfl rfl rfl rfl rfl) ?_
 refine TL.nil ?_
 obtain rfl := osi ht33
 exact ⟨_, Gst.only [14, 16, 18] rfl, rfl⟩
end Go.Proofs.Ytbcbggdgkdfciaa.S
