/- Printed by a program of this session's own (gen.py): Lean functions for Go functions, and the proofs that the Go code comes to their answers. -/
import Derived.Test.YtpmhiiemklhbhaaGreatG1xc
import Derived.Test.YtpmhiiemklhbhaaGreatG1xb
import Derived.Test.YtpmhiiemklhbhaaGreatG1xa
set_option maxHeartbeats 4000000
set_option linter.unusedVariables false
set_option linter.unusedSimpArgs false
set_option maxRecDepth 20000
namespace Go.Proofs.YtpmhiiemklhbhaaGreat.S
open Go Go.Sm
attribute [local irreducible] T TL OpR CallT iter loop
noncomputable def walk_Range_row_Row_1_2.l1 (a1 : Int) (s10 : Int × (List Int) × (List wFr)) : Option (Lp (Int × (List Int) × (List wFr)) (List Int)) :=
  if s10.1 < a1 then
    bnd (walk_stack_row_Row_top s10.2.2) fun x19 =>
    bnd (idx s10.2.2 x19) fun x20 =>
    bnd (some x20.fN) fun q21 => match q21 with
      | none =>
        none
      | some z22 =>
        bnd (o_tNd z22) fun x24 =>
        bnd (if x20.fNext = (x24.fItems.length : Int) then
          bnd (walk_stack_row_Row_forth s10.2.2) fun x29 =>
          some x29.2
        else
          some s10.2.2 : Option (List wFr)) fun t26 =>
        bnd (walk_stack_row_Row_top t26) fun x31 =>
        bnd (idx t26 x31) fun x32 =>
        bnd (some x32.fN) fun q33 => match q33 with
          | none =>
            none
          | some z34 =>
            bnd (o_tNd z34) fun x36 =>
            bnd (idx x36.fItems x32.fNext) fun x38 =>
            bnd (grid_Grid_Visible_r0_2 s10.1 x38 s10.2.1) fun x39 =>
            some (Lp.next (w64 (s10.1 + 1), x39, (t26.set x31.toNat (⟨x32.fN, x32.fFirst, w64 (x32.fNext + 1)⟩ : wFr))))
  else
    some (Lp.done s10.2.1)
noncomputable def walk_Range_row_Row_1_2 (a0 : Int) (a1 : Int) (a2 : Option NP) : Option (List Int) :=
  if a0 = a1 then
    some []
  else
    bnd (tree_Tree_row_Row_Root (⟨a2⟩ : tTr)) fun x4 =>
    match x4 with
    | .inl x4 =>
        none
    | .inr x4 =>
        bnd (walk_stack_row_Row_down x4.1 x4.2.1 x4.2.2 0 a0) fun x5 =>
        bnd (loop (walk_Range_row_Row_1_2.l1 a1) (a0, [], x5) : Option (List Int)) fun t6 =>
        some t6
theorem walk_Range_row_Row_1_2_c {a0 : Int} {a1 : Int} {a2 : Option NP} {b0 : Nat} {b1 : Nat} {b2 : Nat} {b3 : Nat} {b4 : Nat} {res : (List Int)} (h0 : walk_Range_row_Row_1_2 a0 a1 a2 = some res) : CallF X 146 [.fn (.yield b0) [] [], dP b1, dP b2, dP b3] [.lp b0 .ready none [11, 12] rfA51_0 rfB51_0 [(3, (dP b4))] 21, .var b1 [dN a0] 3, .var b2 [dN a1] 3, .var b3 [(eOP a2)] 25, .var b4 [.val (.slice none 0 0)] 76] (fun x => .tup []) (fun x => [.lp b0 .ready none [11, 12] rfA51_0 rfB51_0 [(3, (dP b4))] 21, .var b1 [dN a0] 3, .var b2 [dN a1] 3, .var b3 [(eOP a2)] 25, .var b4 [.val (vn x 0)] 76, .row (vn x 0) (List.map (eI .i64) res) 1 3]) := by
 unfold walk_Range_row_Row_1_2 at h0
 refine CallF.mkG (X := X) rfl Tryz.func146 rfl rfl Tryz.ntmps146 rfl rfl ?_
 refine T.seq ?_
 refine aS ?_
 refine TL.op1 (OpR.loadPtr 1 rfl rfl rfl rfl) rfl ?_
 refine TL.op1 (OpR.loadPtr 2 rfl rfl rfl rfl) rfl ?_
 refine aA rfl rfl ?_
 refine aN rfl ?_
 rcases ite_some h0 with ⟨c1, h0⟩ | ⟨c1, h0⟩
 · refine T.condT rfl (beq_iff_eq.2 c1) ?_
   refine T.ret ?_
   obtain rfl := osi h0
   exact PostG.retP (ks := [0, 1, 2, 3, 4, 5]) (Gst.trans (Gst.only [] rfl) (Gst.nilRow (ow := [.lp b0 .ready none [11, 12] rfA51_0 rfB51_0 [(3, (dP b4))] 21, .var b1 [dN a0] 3, .var b2 [dN a1] 3, .var b3 [(eOP a2)] 25, .var b4 [.val (.slice none 0 0)] 76]) 1 3 rfl)) (.tuple #[(.slice none 0 0)]) ResL.nil rfl rfl rfl rfl
 refine T.condF rfl (beq_eq_false_iff_ne.2 c1) ?_
 refine aK rfl ?_
 refine aS ?_
 refine TL.op (OpR.alloc rfl rfl (fun _ => rfl)) rfl (fun p2 => ?_)
 refine aN rfl ?_
 refine T.seq ?_
 obtain ⟨x4, hx4, h0⟩ := bS h0
 rcases x4 with x4 | x4
 · dsimp only at h0
   exact (by cases h0)
 dsimp only at h0
 obtain ⟨x5, hx5, h0⟩ := bS h0
 refine T.drawS drawsX (fun env3 => [.agg [(eOP a2)], .nod [.sl 1 (List.map eNP x4.1), .sl 3 (List.map e_row_Row x4.2.1), dN x4.2.2], dN a0, .tup []]) (fun D env3 => [.lp b0 .ready none [11, 12] rfA51_0 rfB51_0 [(3, (dP b4))] 21, .var b1 [dN a0] 3, .var b2 [dN a1] 3, .var b3 [(eOP a2)] 25, .var b4 [.val (.slice none 0 0)] 76, (bif D 3 then .var (blk p2) [.val (vn (env3 3) 0)] 228 else .var (blk p2) [.val (.slice none 0 0)] 228)] ++ (bif D 3 then [.row (vn (env3 3) 0) (List.map e_wFr x5) 3 234] else [])) [0, 1, 0, 7] [0, 1, 2, 5] _ (by decide +kernel) (by decide +kernel) (fun _ => rfl) (fun _ => rfl) ?_ (fun _ => rfl) (fun _ => rfl) ?_
 · refine oT (.agg [(eOP a2)]) (fun _ _ => OpR.loadPtr 3 rfl rfl rfl rfl) ?_
   refine oT (.nod [.sl 1 (List.map eNP x4.1), .sl 3 (List.map e_row_Row x4.2.1), dN x4.2.2]) (fun _ _ => OpR.call0 fn148 (tree_Tree_row_Row_Root_cx2 hx4) rfl) ?_
   refine oT ((dN a0)) (fun _ _ => OpR.loadPtr 1 rfl rfl rfl rfl) ?_
   refine OpsS.cons' true ?_ (fun D hA env3 x j hj hD => match j, hj, hD with | 0, _, _ => rfl | 1, _, _ => rfl | 2, _, _ => rfl | 3, hj, _ => absurd rfl hj | _ + 4, _, _ => rfl) ?_
   · intro D env3 hA
     exact OpS.yp [(3, false)] ⟨hA.me, trivial⟩ (Want.plain rfl) (OpR.call [5] fn147 (walk_stack_row_Row_down_c hx5) rfl rfl rfl (fun _ => rfl)) (fun x => rfl) (fun x => rfl)
   exact trivial
 intro env3
 show T X _ _ _
 refine aS ?_
 refine TL.op1 (OpR.loadPtr 1 rfl rfl rfl rfl) rfl ?_
 refine aA rfl rfl ?_
 refine aN rfl ?_
 obtain ⟨t6, ht6, h0⟩ := bS h0
 refine T.cutN (fun S' => ∃ y7 : Value, S' = ⟨[], [.lp b0 .ready none [11, 12] rfA51_0 rfB51_0 [(3, (dP b4))] 21, .var b1 [dN a0] 3, .var b2 [dN a1] 3, .var b3 [(eOP a2)] 25, .var b4 [.val y7] 76, .row y7 (List.map (eI .i64) t6) 1 3], 62⟩) (fun _ _ g ⟨h, S', ds, g', r⟩ => ⟨h, S', ds, Gst.trans g g', r⟩) ?_ ?_
 rotate_left
 · rintro _ ⟨y7, rfl⟩
   obtain rfl := osi h0
   exact PostG.finP (ks := [0, 1, 2, 3, 4, 5]) (Gst.only [] rfl) (.tuple #[y7]) ResL.nil rfl rfl rfl rfl
 refine T.block ?_
 obtain ⟨n11, n16⟩ := loop_some ht6
 refine T.loop (fun n S' => ∃ S'', Gst S' S'' ∧ ∃ y8 : Value, ∃ y9 : Value, ∃ s10 : Int × (List Int) × (List wFr), S'' = ⟨[(6, (dN s10.1)), (5, (dP (blk p2))), (2, (dP b2)), (0, .fn (.yield b0) [] [])], [.lp b0 .ready none [11, 12] rfA51_0 rfB51_0 [(3, (dP b4))] 21, .var b1 [dN a0] 3, .var b2 [dN a1] 3, .var b3 [(eOP a2)] 25, .var b4 [.val y8] 76, .var (blk p2) [.val y9] 228, .row y8 (List.map (eI .i64) s10.2.1) 1 3, .row y9 (List.map e_wFr s10.2.2) 3 234], 62⟩ ∧ iter (walk_Range_row_Row_1_2.l1 a1) n s10 = some t6) n11 ?_ ?_
 · exact ⟨_, Gst.trans (Gst.only [0, 2, 5, 6] rfl) (Gst.trans (Gst.nilRow (ow := [.lp b0 .ready none [11, 12] rfA51_0 rfB51_0 [(3, (dP b4))] 21, .var b1 [dN a0] 3, .var b2 [dN a1] 3, .var b3 [(eOP a2)] 25, .var b4 [.val (.slice none 0 0)] 76, .var (blk p2) [.val (vn (env3 3) 0)] 228, .row (vn (env3 3) 0) (List.map e_wFr x5) 3 234]) 1 3 rfl) (Gst.pick [0, 1, 2, 3, 4, 5, 7, 6] rfl rfl)), (.slice none 0 0), (vn (env3 3) 0), (a0, [], x5), rfl, n16⟩
 rintro n11 _ ⟨_, g, y8, y9, s10, rfl, i15⟩
 refine T.ghost g ?_
 obtain ⟨m12, q13, rfl, q14, i15⟩ := iter_succ i15
 unfold walk_Range_row_Row_1_2.l1 at q14
 refine T.seq ?_
 refine aS ?_
 refine aA rfl rfl ?_
 refine TL.op1 (OpR.loadPtr 2 rfl rfl rfl rfl) rfl ?_
 refine aA rfl rfl ?_
 refine aN rfl ?_
 rcases ite_some q14 with ⟨c18, q14⟩ | ⟨c18, q14⟩
 rotate_left
 · refine T.condF rfl (eF c18) ?_
   refine T.exit ?_
   obtain rfl := osi q14
   obtain rfl : _ = _ := i15
   exact ⟨_, gP [] [0, 1, 2, 3, 4, 6] rfl rfl rfl, y8, rfl⟩
 refine T.condT rfl (eT c18) ?_
 refine aK rfl ?_
 refine T.seq ?_
 refine T.block ?_
 refine T.seq ?_
 refine aS ?_
 obtain ⟨x19, hx19, q14⟩ := bS q14
 refine TL.op1 (OpR.call [5, 7] fn149 (walk_stack_row_Row_top_c hx19) rfl rfl rfl (fun _ => rfl)) rfl ?_
 refine aA rfl rfl ?_
 refine aN rfl ?_
 refine T.seq ?_
 obtain ⟨x20, hx20, q14⟩ := bS q14
 obtain ⟨q21, hq21, q14⟩ := bS q14
 rcases q21 with _ | z22
 · dsimp only at q14
   exact (by cases q14)
 dsimp only at q14
 obtain ⟨x24, hx24, q14⟩ := bS q14
 rw [o_tNd_eq hx24] at hq21
 refine T.drawQ drawsX [.val (.pointer (some ⟨blk y9, x19.toNat * 3, none⟩)), .val (.pointer (some ⟨blk y9, x19.toNat * 3, none⟩)), .val (.pointer (some ⟨blk y9, x19.toNat * 3 + 2, none⟩)), dN x20.fNext, .val (.pointer (some ⟨blk y9, x19.toNat * 3, none⟩)), .val (.pointer (some ⟨blk y9, x19.toNat * 3, none⟩)), .val (.pointer (some ⟨blk y9, x19.toNat * 3, none⟩)), .nod [.sl 1 (List.map eNP x24.fKids), .sl 3 (List.map e_row_Row x24.fItems), dN x24.fN], .nod [.sl 1 (List.map eNP x24.fKids), .sl 3 (List.map e_row_Row x24.fItems), dN x24.fN], .nod [.sl 3 (List.map e_row_Row x24.fItems), dN x24.fN], .sl 3 (List.map e_row_Row x24.fItems), dN (x24.fItems.length : Int), dT (x20.fNext == (x24.fItems.length : Int))] [0, 2, 5, 6, 35] (by decide +kernel) rfl ?_ rfl ?_
 · iterate 3 refine aB rfl rfl rfl ?_
   refine OpsQ.yes (Want.plain rfl) rfl (OpR.rowLoadM (j := x19) e_wFr 7 hx20 rfl rfl rfl rfl) ?_
   iterate 3 refine aB rfl rfl rfl ?_
   refine OpsQ.yes (Want.plain rfl) rfl (OpR.cast (OpR.rowLoad0M (j := x19) e_wFr 7 hx20 rfl rfl rfl rfl) (congrArg eOP (osi hq21))) ?_
   iterate 3 refine aB rfl rfl rfl ?_
   refine OpsQ.yes (Want.plain rfl) rfl (OpR.cast (OpR.pure rfl) (intE (lenM _ _))) ?_
   refine aB rfl rfl rfl ?_
   exact OpsQ.nil
 show T X _ _ _
 obtain ⟨t26, ht26, q14⟩ := bS q14
 refine T.cutC (fun S' => ∃ y27 : Value, S' = ⟨[(6, (dN s10.1)), (5, (dP (blk p2))), (2, (dP b2)), (0, .fn (.yield b0) [] [])], [.lp b0 .ready none [11, 12] rfA51_0 rfB51_0 [(3, (dP b4))] 21, .var b1 [dN a0] 3, .var b2 [dN a1] 3, .var b3 [(eOP a2)] 25, .var b4 [.val y8] 76, .var (blk p2) [.val y27] 228, .row y8 (List.map (eI .i64) s10.2.1) 1 3, .row y27 (List.map e_wFr t26) 3 234], 62⟩) (fun _ h => h) ?_ ?_
 · rcases ite_some ht26 with ⟨c28, ht26⟩ | ⟨c28, ht26⟩
   rotate_left
   · refine T.condF rfl (beq_eq_false_iff_ne.2 c28) ?_
     refine T.skip ?_
     obtain rfl := osi ht26
     exact ⟨_, Gst.only [0, 2, 5, 6] rfl, y9, rfl⟩
   refine T.condT rfl (beq_iff_eq.2 c28) ?_
   refine T.region ?_
   obtain ⟨x29, hx29, ht26⟩ := bS ht26
   refine TL.op (OpR.call [5, 7] fn150 (walk_stack_row_Row_forth_c hx29) rfl rfl rfl (fun _ => rfl)) rfl (fun w30 => ?_)
   refine TL.nil ?_
   obtain rfl := osi ht26
   exact ⟨_, Gst.only [0, 2, 5, 6] rfl, (vn w30 0), rfl⟩
 rintro _ ⟨y27, rfl⟩
 show T X _ _ _
 refine aS ?_
 obtain ⟨x31, hx31, q14⟩ := bS q14
 refine TL.op1 (OpR.call [5, 7] fn149 (walk_stack_row_Row_top_c hx31) rfl rfl rfl (fun _ => rfl)) rfl ?_
 refine aA rfl rfl ?_
 refine aN rfl ?_
 refine T.seq ?_
 refine T.seq ?_
 obtain ⟨x32, hx32, q14⟩ := bS q14
 obtain ⟨q33, hq33, q14⟩ := bS q14
 rcases q33 with _ | z34
 · dsimp only at q14
   exact (by cases q14)
 dsimp only at q14
 obtain ⟨x36, hx36, q14⟩ := bS q14
 rw [o_tNd_eq hx36] at hq33
 obtain ⟨x38, hx38, q14⟩ := bS q14
 obtain ⟨x39, hx39, q14⟩ := bS q14
 refine T.drawS drawsX (fun env37 => [.fn (.yield b0) [] [], dN s10.1, .val (.pointer (some ⟨blk y27, x31.toNat * 3, none⟩)), .val (.pointer (some ⟨blk y27, x31.toNat * 3, none⟩)), .val (.pointer (some ⟨blk y27, x31.toNat * 3, none⟩)), .nod [.sl 1 (List.map eNP x36.fKids), .sl 3 (List.map e_row_Row x36.fItems), dN x36.fN], .nod [.sl 1 (List.map eNP x36.fKids), .sl 3 (List.map e_row_Row x36.fItems), dN x36.fN], .nod [.sl 3 (List.map e_row_Row x36.fItems), dN x36.fN], .sl 3 (List.map e_row_Row x36.fItems), .val (.pointer (some ⟨blk y27, x31.toNat * 3, none⟩)), .val (.pointer (some ⟨blk y27, x31.toNat * 3, none⟩)), .val (.pointer (some ⟨blk y27, x31.toNat * 3 + 2, none⟩)), dN x32.fNext, .nod [.sl 5 (List.map e_cell_Cell x38.fCells), dN x38.fEnd, dT x38.fHidden], .agg [.sl 5 (List.map e_cell_Cell x38.fCells), dN x38.fEnd, dT x38.fHidden], dT true, dT false]) (fun D env37 => [.lp b0 .ready none [11, 12] rfA51_0 rfB51_0 [(3, (dP b4))] 21, .var b1 [dN a0] 3, .var b2 [dN a1] 3, .var b3 [(eOP a2)] 25, (bif D 15 then .var b4 [.val (vn (env37 15) 0)] 76 else .var b4 [.val y8] 76), .var (blk p2) [.val y27] 228, (bif D 15 then .row (vn (env37 15) 0) (List.map (eI .i64) x39) 1 3 else .row y8 (List.map (eI .i64) s10.2.1) 1 3), .row y27 (List.map e_wFr t26) 3 234]) [0, 0, 0, 4, 12, 28, 60, 124, 252, 0, 512, 1536, 3584, 8188, 16380, 32767, 65535] [0, 2, 5, 6, 8, 54] _ (by decide +kernel) (by decide +kernel) (fun _ => rfl) (fun _ => rfl) ?_ (fun _ => rfl) (fun _ => rfl) ?_
 rotate_left
 · intro env37
   show T X _ _ _
   refine T.condF rfl rfl ?_
   refine aK rfl ?_
   refine T.region ?_
   iterate 3 refine aA rfl rfl ?_
   refine TL.op1 (OpR.rowLoadM (j := x31) e_wFr 7 hx32 rfl rfl rfl rfl) rfl ?_
   iterate 3 refine aA rfl rfl ?_
   refine TL.op0 (OpR.rowStoreM (j := x31) e_wFr (⟨x32.fN, x32.fFirst, w64 (x32.fNext + 1)⟩ : wFr) 7 hx32 rfl rfl rfl rfl rfl rfl rfl rfl rfl) ?_
   refine aN rfl ?_
   refine T.region ?_
   iterate 3 refine aA rfl rfl ?_
   refine TL.nil ?_
   obtain rfl := osi q14
   exact ⟨m12, Nat.lt_succ_self _, _, Gst.only [0, 2, 5, 6] rfl, (vn (env37 15) 0), y27, (w64 (s10.1 + 1), x39, (t26.set x31.toNat (⟨x32.fN, x32.fFirst, w64 (x32.fNext + 1)⟩ : wFr))), rfl, i15⟩
 iterate 5 refine aC ?_
 refine oT (.nod [.sl 1 (List.map eNP x36.fKids), .sl 3 (List.map e_row_Row x36.fItems), dN x36.fN]) (fun _ _ => OpR.cast (OpR.rowLoad0M (j := x31) e_wFr 7 hx32 rfl rfl rfl rfl) (congrArg eOP (osi hq33))) ?_
 iterate 6 refine aC ?_
 refine oT ((dN x32.fNext)) (fun _ _ => OpR.rowLoadM (j := x31) e_wFr 7 hx32 rfl rfl rfl rfl) ?_
 refine oT (.nod [.sl 5 (List.map e_cell_Cell x38.fCells), dN x38.fEnd, dT x38.fHidden]) (fun _ _ => OpR.indexM e_row_Row hx38 rfl rfl rfl rfl rfl) ?_
 refine aC ?_
 refine OpsS.cons' true ?_ (fun D hA env37 x j hj hD => match j, hj, hD with | 0, _, _ => rfl | 1, _, _ => rfl | 2, _, _ => rfl | 3, _, _ => rfl | 4, _, _ => rfl | 5, _, _ => rfl | 6, _, _ => rfl | 7, _, _ => rfl | 8, _, _ => rfl | 9, _, _ => rfl | 10, _, _ => rfl | 11, _, _ => rfl | 12, _, _ => rfl | 13, _, _ => rfl | 14, _, _ => rfl | 15, hj, _ => absurd rfl hj | 16, _, _ => rfl | _ + 17, _, _ => rfl) ?_
 · intro D env37 hA
   exact OpS.yp [(15, false)] ⟨hA.me, trivial⟩ (Want.plain rfl) (OpR.callY [0, 4, 6] rfl (grid_Grid_Visible_r0_2_c hx39) rfl rfl rfl (fun _ => rfl)) (fun x => rfl) (fun x => rfl)
 refine aC ?_
 exact trivial
noncomputable def grid_Grid_Visible (a0 : grid_Grid) : Option (List Int) :=
  bnd (grid_Grid_Len a0) fun x3 =>
  bnd (walk_Range_row_Row a0.fRows 0 x3) fun x4 =>
  bnd (walk_Range_row_Row_1_2 x4.1 x4.2.1 x4.2.2) fun x6 =>
  some x6
theorem grid_Grid_Visible_c {a0 : grid_Grid} {res : (List Int)} (h0 : grid_Grid_Visible a0 = some res) : CallF X 51 [.agg [(eOP a0.fRows.fRoot), dT a0.fTail, dN a0.fEnd]] [] (fun x => .sl 1 (List.map (eI .i64) res)) (fun x => []) := by
 unfold grid_Grid_Visible at h0
 refine CallF.mkG (X := X) rfl Tryz.func51 rfl rfl Tryz.ntmps51 rfl rfl ?_
 refine aS ?_
 refine TL.op1 (OpR.boxImm rfl rfl) rfl ?_
 refine aA rfl rfl ?_
 refine aN rfl ?_
 refine aS ?_
 refine TL.op (OpR.alloc rfl rfl (fun _ => rfl)) rfl (fun p1 => ?_)
 refine aN rfl ?_
 refine T.seq ?_
 refine T.seq ?_
 obtain ⟨x3, hx3, h0⟩ := bS h0
 obtain ⟨x4, hx4, h0⟩ := bS h0
 refine T.drawS drawsX (fun env2 => [.nod [(eOP a0.fRows.fRoot), dT a0.fTail, dN a0.fEnd], .agg [(eOP a0.fRows.fRoot)], .agg [(eOP a0.fRows.fRoot), dT a0.fTail, dN a0.fEnd], dN x3, .fn (.func 146) [] [dP (blk (vn (env2 4) 0)), dP (blk (vn (env2 4) 1)), dP (blk (vn (env2 4) 2))]]) (fun D env2 => [.var (blk p1) [.val (.slice none 0 0)] 76] ++ (bif D 4 then [.var (blk (vn (env2 4) 0)) [dN x4.1] 3] else []) ++ (bif D 4 then [.var (blk (vn (env2 4) 1)) [dN x4.2.1] 3] else []) ++ (bif D 4 then [.var (blk (vn (env2 4) 2)) [(eOP x4.2.2)] 25] else [])) [0, 1, 0, 4, 15] [2, 3, 10] _ (by decide +kernel) (by decide +kernel) (fun _ => rfl) (fun _ => rfl) ?_ (fun _ => rfl) (fun _ => rfl) ?_
 rotate_left
 · intro env2
   show T X _ _ _
   refine T.block ?_
   obtain ⟨x6, hx6, h0⟩ := bS h0
   refine T.rangeN (A := rfA51_0) (B := rfB51_0) [3] [1, 2, 3, 0] (.inl rfl) rfl rfl rfl rfl rfl fn146 rfl rfl (fun l5 => (walk_Range_row_Row_1_2_c hx6)) (fun _ => rfl) (fun w7 => ?_)
   show T X _ _ _
   refine aS ?_
   refine TL.op1 (OpR.loadPtr 0 rfl rfl rfl rfl) rfl ?_
   refine aA rfl rfl ?_
   refine aN rfl ?_
   refine T.ret ?_
   obtain rfl := osi h0
   exact PostG.retP (ks := []) (Gst.trans (Gst.only [2] rfl) (Gst.trans (Gst.freezeRow 4 rfl rfl (ReS.cons (Re.base .all) ReS.nil) (ReO.var (ReL.cons (Re.base .all) ReL.nil) (ReO.same (ReO.same (ReO.same (ReO.same ReO.nil)))))) (Gst.pick [] rfl rfl))) undef (cT rfl ResL.nil) rfl rfl rfl rfl
 iterate 3 refine aC ?_
 refine oT ((dN x3)) (fun _ _ => OpR.call0 fn22 (grid_Grid_Len_c hx3) rfl) ?_
 refine OpsS.cons' true ?_ (fun D hA env2 x j hj hD => match j, hj, hD with | 0, _, _ => rfl | 1, _, _ => rfl | 2, _, _ => rfl | 3, _, _ => rfl | 4, hj, _ => absurd rfl hj | _ + 5, _, _ => rfl) ?_
 · intro D env2 hA
   exact OpS.yp [(4, false)] ⟨hA.me, trivial⟩ (Want.plain rfl) (OpR.call [] fn80 (walk_Range_row_Row_c hx4) rfl rfl rfl (fun _ => rfl)) (fun x => rfl) (fun x => rfl)
 exact trivial
noncomputable def filter_All_1 (a0 : row_Row) : Option Bool :=
  some false
theorem filter_All_1_c {a0 : row_Row} {res : Bool} (h0 : filter_All_1 a0 = some res) : CallF X 123 [.agg [.sl 5 (List.map e_cell_Cell a0.fCells), dN a0.fEnd, dT a0.fHidden]] [] (fun x => (dT res)) (fun x => []) := by
 unfold filter_All_1 at h0
 refine CallF.mkG (X := X) rfl Tryz.func123 rfl rfl Tryz.ntmps123 rfl rfl ?_
 refine aS ?_
 refine TL.op1 (OpR.boxImm rfl rfl) rfl ?_
 refine aA rfl rfl ?_
 refine aN rfl ?_
 refine aS ?_
 refine aA rfl rfl ?_
 refine aN rfl ?_
 refine T.ret ?_
 obtain rfl := osi h0
 exact rO [] [2] rfl undef (cT rfl ResL.nil) rfl rfl rfl rfl
noncomputable def filter_hide_1_2 (a0 : Int) (a1 : row_Row) : Option row_Row :=
  bnd (filter_All_1 a1) fun x3 =>
  bnd (row_Row_Hide a1 x3) fun x4 =>
  some x4
theorem filter_hide_1_2_c {a0 : Int} {a1 : row_Row} {b0 : Nat} {res : row_Row} (h0 : filter_hide_1_2 a0 a1 = some res) : CallF X 185 [dN a0, .agg [.sl 5 (List.map e_cell_Cell a1.fCells), dN a1.fEnd, dT a1.fHidden], dP b0] [.var b0 [.fn (.func 123) [] []] 130] (fun x => .agg [.sl 5 (List.map e_cell_Cell res.fCells), dN res.fEnd, dT res.fHidden]) (fun x => [.var b0 [.fn (.func 123) [] []] 130]) := by
 unfold filter_hide_1_2 at h0
 refine CallF.mkG (X := X) rfl Tryz.func185 rfl rfl Tryz.ntmps185 rfl rfl ?_
 refine aS ?_
 refine TL.op1 (OpR.boxImm rfl rfl) rfl ?_
 refine TL.op (OpR.alloc rfl rfl (fun _ => rfl)) rfl (fun p1 => ?_)
 refine aN rfl ?_
 refine T.seq ?_
 obtain ⟨x3, hx3, h0⟩ := bS h0
 obtain ⟨x4, hx4, h0⟩ := bS h0
 refine T.drawS drawsX (fun env2 => [.agg [.sl 5 (List.map e_cell_Cell a1.fCells), dN a1.fEnd, dT a1.fHidden], .fn (.func 123) [] [], .agg [.sl 5 (List.map e_cell_Cell a1.fCells), dN a1.fEnd, dT a1.fHidden], dT x3, .agg [.sl 5 (List.map e_cell_Cell x4.fCells), dN x4.fEnd, dT x4.fHidden], .dead]) (fun D env2 => [.var b0 [.fn (.func 123) [] []] 130, (bif D 5 then .var (blk p1) [.sl 5 (List.map e_cell_Cell x4.fCells), dN x4.fEnd, dT x4.fHidden] 49 else .var (blk p1) [.val (.slice none 0 0), dN 0, dT false] 49)]) [0, 0, 0, 6, 15, 31] [5] _ (by decide +kernel) (by decide +kernel) (fun _ => rfl) (fun _ => rfl) ?_ (fun _ => rfl) (fun _ => rfl) ?_
 rotate_left
 · intro env2
   show T X _ _ _
   refine T.ret ?_
   obtain rfl := osi h0
   exact rO [0] [5] rfl undef (cV 1 rfl rfl rfl rfl ResL.nil) rfl rfl rfl rfl
 refine aC ?_
 refine oT (.fn (.func 123) [] []) (fun _ _ => OpR.loadPtr 0 rfl rfl rfl rfl) ?_
 refine aC ?_
 refine oT ((dT x3)) (fun _ _ => OpR.callV [] rfl fn123 (filter_All_1_c hx3) rfl rfl rfl (fun _ => rfl)) ?_
 refine oT (.agg [.sl 5 (List.map e_cell_Cell x4.fCells), dN x4.fEnd, dT x4.fHidden]) (fun _ _ => OpR.call0 fn121 (row_Row_Hide_c hx4) rfl) ?_
 refine OpsS.cons' true ?_ (fun _ _ _ _ _ _ _ => rfl) ?_
 · intro D env2 hA
   exact OpS.yp [(5, false)] ⟨hA.me, trivial⟩ (Want.plain rfl) (OpR.store 1 rfl rfl rfl rfl rfl rfl rfl rfl) (fun x => rfl) (fun x => rfl)
 exact trivial
noncomputable def walk_Map_row_Row_2.l1 (x3 : (List row_Row)) (s6 : Int × (List row_Row)) : Option (Lp (Int × (List row_Row)) (List row_Row)) :=
  if s6.1 < (x3.length : Int) then
    bnd (idx s6.2 s6.1) fun x15 =>
    bnd (filter_hide_1_2 s6.1 x15) fun x17 =>
    some (Lp.next (w64 (s6.1 + 1), (s6.2.set s6.1.toNat x17)))
  else
    some (Lp.done s6.2)
noncomputable def walk_Map_row_Row_2 (a0 : tTr) : Option tTr :=
  bnd (walk_All_row_Row a0) fun x2 =>
  bnd (slices_Clone_row_Row_row_Row x2) fun x3 =>
  bnd (loop (walk_Map_row_Row_2.l1 x3) (0, x3) : Option (List row_Row)) fun t5 =>
  bnd (tree_Of_row_Row t5) fun x18 =>
  some x18
theorem walk_Map_row_Row_2_c {a0 : tTr} {b0 : Nat} {res : tTr} (h0 : walk_Map_row_Row_2 a0 = some res) : CallF X 137 [.agg [(eOP a0.fRoot)], .fn (.func 185) [] [dP b0]] [.var b0 [.fn (.func 123) [] []] 130] (fun x => .agg [(eOP res.fRoot)]) (fun x => [.var b0 [.fn (.func 123) [] []] 130]) := by
 unfold walk_Map_row_Row_2 at h0
 refine CallF.mkG (X := X) rfl Tryz.func137 rfl rfl Tryz.ntmps137 rfl rfl ?_
 refine aS ?_
 refine TL.op1 (OpR.boxImm rfl rfl) rfl ?_
 refine TL.op (OpR.alloc rfl rfl (fun _ => rfl)) rfl (fun p1 => ?_)
 refine aN rfl ?_
 refine aS ?_
 refine aA rfl rfl ?_
 obtain ⟨x2, hx2, h0⟩ := bS h0
 refine TL.op1 (OpR.call0 fn100 (walk_All_row_Row_c hx2) rfl) rfl ?_
 obtain ⟨x3, hx3, h0⟩ := bS h0
 refine TL.op (OpR.call [] fn191 (slices_Clone_row_Row_row_Row_c hx3) rfl rfl rfl (fun _ => rfl)) rfl (fun w4 => ?_)
 refine aA rfl rfl ?_
 refine aN rfl ?_
 refine T.seq ?_
 refine aS ?_
 refine aA rfl rfl ?_
 refine TL.op1 (OpR.rowLenM e_row_Row 2 rfl rfl rfl rfl) rfl ?_
 refine aA rfl rfl ?_
 refine aN rfl ?_
 obtain ⟨t5, ht5, h0⟩ := bS h0
 refine T.cutC (fun S' => S' = ⟨[(5, .val (vn w4 0)), (4, (dP (blk p1)))], [.var b0 [.fn (.func 123) [] []] 130, .var (blk p1) [(eOP none)] 25, .row (vn w4 0) (List.map e_row_Row t5) 3 49], 28⟩) (fun _ h => h) ?_ ?_
 rotate_left
 · rintro _ rfl
   show T X _ _ _
   refine aS ?_
   refine aA rfl rfl ?_
   refine TL.ghost (Gst.freezeRow 2 rfl rfl (ReS.cons (Re.base .all) (ReS.refl _)) (ReO.same (ReO.same (ReO.same ReO.nil)))) ?_
   obtain ⟨x18, hx18, h0⟩ := bS h0
   refine TL.op1 (OpR.call0 fn101 (tree_Of_row_Row_c hx18) rfl) rfl ?_
   refine TL.op0 (OpR.store 1 rfl rfl rfl rfl rfl rfl rfl rfl) ?_
   refine aN rfl ?_
   refine T.ret ?_
   obtain rfl := osi h0
   exact rP [0] [4] [0, 1] rfl rfl rfl undef (cV 1 rfl rfl rfl rfl ResL.nil) rfl rfl rfl rfl
 refine T.block ?_
 obtain ⟨n7, n12⟩ := loop_some ht5
 refine T.loop (fun n S' => ∃ S'', Gst S' S'' ∧ ∃ s6 : Int × (List row_Row), S'' = ⟨[(13, (dN s6.1)), (12, (dN (x3.length : Int))), (11, .val (vn w4 0)), (5, .val (vn w4 0)), (4, (dP (blk p1))), (1, .fn (.func 185) [] [dP b0])], [.var b0 [.fn (.func 123) [] []] 130, .var (blk p1) [(eOP none)] 25, .row (vn w4 0) (List.map e_row_Row s6.2) 3 49], 28⟩ ∧ iter (walk_Map_row_Row_2.l1 x3) n s6 = some t5) n7 ?_ ?_
 · exact ⟨_, Gst.only [1, 4, 5, 11, 12, 13] rfl, (0, x3), rfl, n12⟩
 rintro n7 _ ⟨_, g, s6, rfl, i11⟩
 refine T.ghost g ?_
 obtain ⟨m8, q9, rfl, q10, i11⟩ := iter_succ i11
 unfold walk_Map_row_Row_2.l1 at q10
 refine aS ?_
 refine aA rfl rfl ?_
 refine aN rfl ?_
 refine T.seq ?_
 rcases ite_some q10 with ⟨c14, q10⟩ | ⟨c14, q10⟩
 rotate_left
 · refine T.condF rfl (eF c14) ?_
   refine T.exit ?_
   obtain rfl := osi q10
   obtain rfl : _ = _ := i11
   exact ⟨_, Gst.only [4, 5] rfl, rfl⟩
 refine T.condT rfl (eT c14) ?_
 refine aK rfl ?_
 refine T.seq ?_
 refine T.block ?_
 refine aS ?_
 refine aA rfl rfl ?_
 obtain ⟨x15, hx15, q10⟩ := bS q10
 refine TL.op1 (OpR.rowIndexM e_row_Row 2 hx15 rfl rfl rfl rfl rfl rfl rfl) rfl ?_
 refine TL.op1 (OpR.rowLoad0M (j := s6.1) e_row_Row 2 hx15 rfl rfl rfl rfl) rfl ?_
 refine TL.op (OpR.alloc rfl rfl (fun _ => rfl)) rfl (fun p16 => ?_)
 refine aA rfl rfl ?_
 refine TL.op0 (OpR.store 3 rfl rfl rfl rfl rfl rfl rfl rfl) ?_
 refine aN rfl ?_
 refine T.region ?_
 iterate 4 refine aA rfl rfl ?_
 refine TL.op1 (OpR.loadPtr 3 rfl rfl rfl rfl) rfl ?_
 obtain ⟨x17, hx17, q10⟩ := bS q10
 refine TL.op1 (OpR.callV [0] rfl fn185 (filter_hide_1_2_c hx17) rfl rfl rfl (fun _ => rfl)) rfl ?_
 refine TL.op1 (OpR.rowIndexM e_row_Row 2 hx15 rfl rfl rfl rfl rfl rfl rfl) rfl ?_
 refine TL.op0 (OpR.rowStore0M (j := s6.1) e_row_Row x17 2 hx15 rfl rfl rfl rfl rfl rfl rfl rfl rfl) ?_
 refine aN rfl ?_
 refine T.region ?_
 iterate 2 refine aA rfl rfl ?_
 refine TL.nil ?_
 obtain rfl := osi q10
 exact ⟨m8, Nat.lt_succ_self _, _, gP [1, 4, 5, 11, 12, 13] [0, 1, 2] rfl rfl rfl, (w64 (s6.1 + 1), (s6.2.set s6.1.toNat x17)), rfl, i11⟩
noncomputable def filter_hide_2 (a0 : grid_Grid) : Option grid_Grid :=
  bnd (walk_Map_row_Row_2 a0.fRows) fun x4 =>
  some (⟨x4, a0.fTail, a0.fEnd⟩ : grid_Grid)
theorem filter_hide_2_c {a0 : grid_Grid} {res : grid_Grid} (h0 : filter_hide_2 a0 = some res) : CallF X 116 [.agg [(eOP a0.fRows.fRoot), dT a0.fTail, dN a0.fEnd], .fn (.func 123) [] []] [] (fun x => .agg [(eOP res.fRows.fRoot), dT res.fTail, dN res.fEnd]) (fun x => []) := by
 unfold filter_hide_2 at h0
 refine CallF.mkG (X := X) rfl Tryz.func116 rfl rfl Tryz.ntmps116 rfl rfl ?_
 refine aS ?_
 refine TL.op (OpR.boxVar rfl rfl (fun _ => rfl)) rfl (fun p1 => ?_)
 refine TL.op (OpR.boxVar rfl rfl (fun _ => rfl)) rfl (fun p2 => ?_)
 refine TL.op (OpR.alloc rfl rfl (fun _ => rfl)) rfl (fun p3 => ?_)
 refine aN rfl ?_
 refine aS ?_
 refine aA rfl rfl ?_
 refine TL.op1 (OpR.loadPtr 0 rfl rfl rfl rfl) rfl ?_
 refine aA rfl rfl ?_
 obtain ⟨x4, hx4, h0⟩ := bS h0
 refine TL.op1 (OpR.call [1] fn137 (walk_Map_row_Row_2_c hx4) rfl rfl rfl (fun _ => rfl)) rfl ?_
 refine aA rfl rfl ?_
 refine TL.op0 (OpR.store 0 rfl rfl rfl rfl rfl rfl rfl rfl) ?_
 refine aN rfl ?_
 refine aS ?_
 refine TL.op1 (OpR.loadPtr 0 rfl rfl rfl rfl) rfl ?_
 refine TL.op0 (OpR.store 2 rfl rfl rfl rfl rfl rfl rfl rfl) ?_
 refine aN rfl ?_
 refine T.ret ?_
 obtain rfl := osi h0
 exact rP [] [4] [2] rfl rfl rfl undef (cV 0 rfl rfl rfl rfl ResL.nil) rfl rfl rfl rfl
noncomputable def filter_All (a0 : grid_Grid) : Option grid_Grid :=
  bnd (filter_hide_2 a0) fun x2 =>
  some x2
theorem filter_All_c {a0 : grid_Grid} {res : grid_Grid} (h0 : filter_All a0 = some res) : CallF X 53 [.agg [(eOP a0.fRows.fRoot), dT a0.fTail, dN a0.fEnd]] [] (fun x => .agg [(eOP res.fRows.fRoot), dT res.fTail, dN res.fEnd]) (fun x => []) := by
 unfold filter_All at h0
 refine CallF.mkG (X := X) rfl Tryz.func53 rfl rfl Tryz.ntmps53 rfl rfl ?_
 refine aS ?_
 refine TL.op1 (OpR.boxImm rfl rfl) rfl ?_
 refine TL.op (OpR.alloc rfl rfl (fun _ => rfl)) rfl (fun p1 => ?_)
 refine aN rfl ?_
 refine aS ?_
 refine aA rfl rfl ?_
 obtain ⟨x2, hx2, h0⟩ := bS h0
 refine TL.op1 (OpR.call0 fn116 (filter_hide_2_c hx2) rfl) rfl ?_
 refine TL.op0 (OpR.store 0 rfl rfl rfl rfl rfl rfl rfl rfl) ?_
 refine aN rfl ?_
 refine T.ret ?_
 obtain rfl := osi h0
 exact rO [] [2] rfl undef (cV 0 rfl rfl rfl rfl ResL.nil) rfl rfl rfl rfl
noncomputable def arena_Arena_Right_nil (a0 : arena_Span) : Option Bool :=
  some false
theorem arena_Arena_Right_nil_c {a0 : arena_Span} {res : Bool} (h0 : arena_Arena_Right_nil a0 = some res) : CallF X 261 [dQ, .agg [dN a0.fAt, dN a0.fN]] [] (fun x => (dT res)) (fun x => []) := by
 unfold arena_Arena_Right_nil at h0
 refine CallF.mkG (X := X) rfl Tryz.func261 rfl rfl Tryz.ntmps261 rfl rfl ?_
 refine aS ?_
 refine TL.op1 (OpR.boxImm rfl rfl) rfl ?_
 refine aA rfl rfl ?_
 refine aN rfl ?_
 refine T.seq ?_
 refine aS ?_
 refine aA rfl rfl ?_
 refine TL.op1 (OpR.ptrNil (A := none) rfl rfl rfl) rfl ?_
 refine aN rfl ?_
 refine T.condT rfl rfl ?_
 refine aS ?_
 refine aA rfl rfl ?_
 refine aN rfl ?_
 refine T.ret ?_
 obtain rfl := osi h0
 exact rO [] [4] rfl undef (cT rfl ResL.nil) rfl rfl rfl rfl
noncomputable def arena_Arena_part_nil (a0 : arena_Span) : Option (List UInt8) :=
  bnd (arena_Arena_Right_nil a0) fun x1 =>
  if x1 = true then
    none
  else
    some []
theorem arena_Arena_part_nil_c {a0 : arena_Span} {res : (List UInt8)} (h0 : arena_Arena_part_nil a0 = some res) : CallF X 231 [dQ, .agg [dN a0.fAt, dN a0.fN]] [] (fun x => .sl 1 (lB res)) (fun x => []) := by
 unfold arena_Arena_part_nil at h0
 refine CallF.mkG (X := X) rfl Tryz.func231 rfl rfl Tryz.ntmps231 rfl rfl ?_
 refine aS ?_
 refine TL.op1 (OpR.boxImm rfl rfl) rfl ?_
 refine aA rfl rfl ?_
 refine aN rfl ?_
 refine T.seq ?_
 refine aS ?_
 iterate 2 refine aA rfl rfl ?_
 obtain ⟨x1, hx1, h0⟩ := bS h0
 refine TL.op1 (OpR.call0 fn261 (arena_Arena_Right_nil_c hx1) rfl) rfl ?_
 refine aA rfl rfl ?_
 refine aN rfl ?_
 rcases ite_some h0 with ⟨c2, h0⟩ | ⟨c2, h0⟩
 · refine T.condF rfl (not_t (c2)) ?_
   refine aK rfl ?_
   refine T.seq ?_
   exact (by cases h0)
 refine T.condT rfl (not_f (eq_false_of_ne_true c2)) ?_
 refine aS ?_
 refine aA rfl rfl ?_
 refine aN rfl ?_
 refine T.ret ?_
 obtain rfl := osi h0
 exact PostG.retP (ks := []) (Gst.trans (Gst.only [4] rfl) (Gst.denil (ReS.cons (Re.base .nil) ReS.nil) ReO.nil)) undef (cT rfl ResL.nil) rfl rfl rfl rfl
noncomputable def arena_Arena_Bytes_nil (a0 : arena_Span) : Option (List UInt8) :=
  bnd (arena_Arena_part_nil a0) fun x1 =>
  bnd (mkz 1 (x1.length : Int) (0 : UInt8)) fun x2 =>
  some (over x2 x1)
theorem arena_Arena_Bytes_nil_c {a0 : arena_Span} {res : (List UInt8)} (h0 : arena_Arena_Bytes_nil a0 = some res) : CallF X 201 [dQ, .agg [dN a0.fAt, dN a0.fN]] [] (fun x => .sl 1 (lB res)) (fun x => []) := by
 unfold arena_Arena_Bytes_nil at h0
 refine CallF.mkG (X := X) rfl Tryz.func201 rfl rfl Tryz.ntmps201 rfl rfl ?_
 refine aS ?_
 refine TL.op1 (OpR.boxImm rfl rfl) rfl ?_
 refine aA rfl rfl ?_
 refine aN rfl ?_
 refine aS ?_
 iterate 2 refine aA rfl rfl ?_
 obtain ⟨x1, hx1, h0⟩ := bS h0
 refine TL.op1 (OpR.call0 fn231 (arena_Arena_part_nil_c hx1) rfl) rfl ?_
 refine aA rfl rfl ?_
 refine aN rfl ?_
 refine aS ?_
 refine aA rfl rfl ?_
 refine TL.op1 (OpR.cast (OpR.pure rfl) (intE (lenM _ _))) rfl ?_
 obtain ⟨x2, hx2, h0⟩ := bS h0
 refine TL.op (OpR.makeM byteD hx2 rfl rfl rfl rfl rfl rfl rfl rfl rfl rfl rfl (fun _ => rfl)) rfl (fun v3 => ?_)
 refine aA rfl rfl ?_
 refine aN rfl ?_
 refine aS ?_
 iterate 2 refine aA rfl rfl ?_
 refine TL.op1 (OpR.copyM byteD 0 rfl rfl rfl rfl rfl rfl rfl rfl) rfl ?_
 refine aN rfl ?_
 refine aS ?_
 iterate 2 refine aA rfl rfl ?_
 refine aN rfl ?_
 refine T.ret ?_
 obtain rfl := osi h0
 exact PostG.retP (ks := []) (Gst.trans (Gst.only [4] rfl) (Gst.trans (Gst.freezeRow 0 rfl rfl (ReS.cons (Re.base .all) ReS.nil) (ReO.same ReO.nil)) (Gst.pick [] rfl rfl))) undef (cT rfl ResL.nil) rfl rfl rfl rfl
noncomputable def piece_Text_Flat_nil.l1 (a0 : piece_Text) (s4 : Int × (List UInt8)) : Option (Lp (Int × (List UInt8)) (List UInt8)) :=
  if s4.1 < (a0.fL.length : Int) then
    bnd (idx a0.fL s4.1) fun x13 =>
    bnd (arena_Arena_Bytes_nil x13) fun x15 =>
    bnd (app 1 s4.2 x15) fun x16 =>
    some (Lp.next (w64 (s4.1 + 1), x16))
  else
    some (Lp.done s4.2)
noncomputable def piece_Text_Flat_nil (a0 : piece_Text) : Option (List UInt8) :=
  bnd (loop (piece_Text_Flat_nil.l1 a0) (0, []) : Option (List UInt8)) fun t1 =>
  some t1
theorem piece_Text_Flat_nil_c {a0 : piece_Text} {res : (List UInt8)} (h0 : piece_Text_Flat_nil a0 = some res) : CallF X 183 [.agg [.sl 2 (List.map e_arena_Span a0.fL), dN a0.fN], dQ] [] (fun x => .sl 1 (lB res)) (fun x => []) := by
 unfold piece_Text_Flat_nil at h0
 refine CallF.mkG (X := X) rfl Tryz.func183 rfl rfl Tryz.ntmps183 rfl rfl ?_
 refine aS ?_
 refine TL.op1 (OpR.boxImm rfl rfl) rfl ?_
 refine aA rfl rfl ?_
 refine aN rfl ?_
 refine aS ?_
 refine aA rfl rfl ?_
 refine aN rfl ?_
 refine T.seq ?_
 refine aS ?_
 iterate 2 refine aA rfl rfl ?_
 refine TL.op1 (OpR.cast (OpR.pure rfl) (intE (lenM _ _))) rfl ?_
 refine aA rfl rfl ?_
 refine aN rfl ?_
 obtain ⟨t1, ht1, h0⟩ := bS h0
 refine T.cutC (fun S' => ∃ y2 : Value, S' = ⟨[(5, .val y2), (4, .val (.slice none 0 0))], [.row y2 (lB t1) 1 5], 22⟩) (fun _ h => h) ?_ ?_
 rotate_left
 · rintro _ ⟨y2, rfl⟩
   show T X _ _ _
   refine aS ?_
   iterate 2 refine aA rfl rfl ?_
   refine aN rfl ?_
   refine T.ret ?_
   obtain rfl := osi h0
   exact PostG.retP (ks := []) (Gst.trans (Gst.only [4] rfl) (Gst.trans (Gst.freezeRow 0 rfl rfl (ReS.cons (Re.base .all) ReS.nil) (ReO.same ReO.nil)) (Gst.pick [] rfl rfl))) undef (cT rfl ResL.nil) rfl rfl rfl rfl
 refine T.block ?_
 obtain ⟨n5, n10⟩ := loop_some ht1
 refine T.loop (fun n S' => ∃ S'', Gst S' S'' ∧ ∃ y3 : Value, ∃ s4 : Int × (List UInt8), S'' = ⟨[(11, (dN s4.1)), (10, (dN (a0.fL.length : Int))), (9, .sl 2 (List.map e_arena_Span a0.fL)), (5, .val y3), (4, .val (.slice none 0 0)), (1, dQ)], [.row y3 (lB s4.2) 1 5], 22⟩ ∧ iter (piece_Text_Flat_nil.l1 a0) n s4 = some t1) n5 ?_ ?_
 · exact ⟨_, Gst.trans (Gst.only [1, 4, 5, 9, 10, 11] rfl) (Gst.nilRow (ow := []) 1 5 rfl), (.slice none 0 0), (0, []), rfl, n10⟩
 rintro n5 _ ⟨_, g, y3, s4, rfl, i9⟩
 refine T.ghost g ?_
 obtain ⟨m6, q7, rfl, q8, i9⟩ := iter_succ i9
 unfold piece_Text_Flat_nil.l1 at q8
 refine aS ?_
 refine aA rfl rfl ?_
 refine aN rfl ?_
 refine T.seq ?_
 rcases ite_some q8 with ⟨c12, q8⟩ | ⟨c12, q8⟩
 rotate_left
 · refine T.condF rfl (eF c12) ?_
   refine T.exit ?_
   obtain rfl := osi q8
   obtain rfl : _ = _ := i9
   exact ⟨_, Gst.only [4, 5] rfl, y3, rfl⟩
 refine T.condT rfl (eT c12) ?_
 refine aK rfl ?_
 refine T.seq ?_
 refine T.block ?_
 refine aS ?_
 obtain ⟨x13, hx13, q8⟩ := bS q8
 refine TL.op1 (OpR.indexM e_arena_Span hx13 rfl rfl rfl rfl rfl) rfl ?_
 refine aA rfl rfl ?_
 refine TL.op (OpR.alloc rfl rfl (fun _ => rfl)) rfl (fun p14 => ?_)
 refine TL.op0 (OpR.store 1 rfl rfl rfl rfl rfl rfl rfl rfl) ?_
 refine aN rfl ?_
 refine T.region ?_
 iterate 2 refine aA rfl rfl ?_
 refine TL.op1 (OpR.loadPtr 1 rfl rfl rfl rfl) rfl ?_
 obtain ⟨x15, hx15, q8⟩ := bS q8
 refine TL.op1 (OpR.call0 fn201 (arena_Arena_Bytes_nil_c hx15) rfl) rfl ?_
 obtain ⟨x16, hx16, q8⟩ := bS q8
 refine TL.op (OpR.appendM (m := x15) byteD 0 hx16 rfl rfl rfl rfl rfl rfl rfl rfl rfl (fun _ => rfl)) rfl (fun v17 => ?_)
 refine aA rfl rfl ?_
 refine aN rfl ?_
 refine T.region ?_
 iterate 2 refine aA rfl rfl ?_
 refine TL.nil ?_
 obtain rfl := osi q8
 exact ⟨m6, Nat.lt_succ_self _, _, gP [1, 4, 5, 9, 10, 11] [0] rfl rfl rfl, v17, (w64 (s4.1 + 1), x16), rfl, i9⟩
noncomputable def cell_Cell_Bytes_nil (a0 : cell_Cell) : Option (List UInt8) :=
  bnd (piece_Text_Flat_nil a0.fText) fun x1 =>
  some x1
theorem cell_Cell_Bytes_nil_c {a0 : cell_Cell} {res : (List UInt8)} (h0 : cell_Cell_Bytes_nil a0 = some res) : CallF X 113 [.agg [.sl 2 (List.map e_arena_Span a0.fText.fL), dN a0.fText.fN, dN a0.fRaw.fAt, dN a0.fRaw.fN, dT a0.fKept], dQ] [] (fun x => .sl 1 (lB res)) (fun x => []) := by
 unfold cell_Cell_Bytes_nil at h0
 refine CallF.mkG (X := X) rfl Tryz.func113 rfl rfl Tryz.ntmps113 rfl rfl ?_
 refine aS ?_
 refine TL.op1 (OpR.boxImm rfl rfl) rfl ?_
 refine aA rfl rfl ?_
 refine aN rfl ?_
 refine aS ?_
 iterate 3 refine aA rfl rfl ?_
 obtain ⟨x1, hx1, h0⟩ := bS h0
 refine TL.op1 (OpR.call0 fn183 (piece_Text_Flat_nil_c hx1) rfl) rfl ?_
 refine aA rfl rfl ?_
 refine aN rfl ?_
 refine T.ret ?_
 obtain rfl := osi h0
 exact rO [] [4] rfl undef (cT rfl ResL.nil) rfl rfl rfl rfl
noncomputable def filter_Holds_nil (a0 : row_Row) (a1 : filter_Test) : Option Bool :=
  bnd (row_Row_At a0 a1.fCol) fun x1 =>
  bnd (filter_of a1.fOp) fun x4 =>
  match x4 with
  | .inl x4 =>
      bnd (cell_Cell_Bytes_nil x1.1) fun x5 =>
      bnd (filter_of_1 x5 a1.fArg) fun x6 =>
      some (!(x6 == a1.fNot))
  | .inr (.inl x4) =>
      bnd (cell_Cell_Bytes_nil x1.1) fun x7 =>
      bnd (bytes_Equal x7 a1.fArg) fun x8 =>
      some (!(x8 == a1.fNot))
  | .inr (.inr (.inl x4)) =>
      bnd (cell_Cell_Bytes_nil x1.1) fun x9 =>
      bnd (filter_of_2 x9 a1.fArg) fun x10 =>
      some (!(x10 == a1.fNot))
  | .inr (.inr (.inr (.inl x4))) =>
      bnd (cell_Cell_Bytes_nil x1.1) fun x11 =>
      bnd (filter_of_3 x11 a1.fArg) fun x12 =>
      some (!(x12 == a1.fNot))
  | .inr (.inr (.inr (.inr (.inl x4)))) =>
      bnd (cell_Cell_Bytes_nil x1.1) fun x13 =>
      bnd (bytes_HasPrefix x13 a1.fArg) fun x14 =>
      some (!(x14 == a1.fNot))
  | .inr (.inr (.inr (.inr (.inr (.inl x4))))) =>
      bnd (cell_Cell_Bytes_nil x1.1) fun x15 =>
      bnd (bytes_HasSuffix x15 a1.fArg) fun x16 =>
      some (!(x16 == a1.fNot))
  | .inr (.inr (.inr (.inr (.inr (.inr x4))))) =>
      bnd (cell_Cell_Bytes_nil x1.1) fun x17 =>
      bnd (filter_of_4 x17 a1.fArg) fun x18 =>
      some (!(x18 == a1.fNot))
theorem filter_Holds_nil_c {a0 : row_Row} {a1 : filter_Test} {res : Bool} (h0 : filter_Holds_nil a0 a1 = some res) : CallF X 44 [.agg [.sl 5 (List.map e_cell_Cell a0.fCells), dN a0.fEnd, dT a0.fHidden], dQ, .agg [dN a1.fCol, dN a1.fOp, .val (.string (bs a1.fArg)), dT a1.fNot]] [] (fun x => (dT res)) (fun x => []) := by
 unfold filter_Holds_nil at h0
 refine CallF.mkG (X := X) rfl Tryz.func44 rfl rfl Tryz.ntmps44 rfl rfl ?_
 refine aS ?_
 refine TL.op1 (OpR.boxImm rfl rfl) rfl ?_
 refine TL.op1 (OpR.boxImm rfl rfl) rfl ?_
 refine aA rfl rfl ?_
 refine aN rfl ?_
 refine aS ?_
 iterate 3 refine aA rfl rfl ?_
 obtain ⟨x1, hx1, h0⟩ := bS h0
 refine TL.op1 (OpR.call0 fn111 (row_Row_At_c hx1) rfl) rfl ?_
 iterate 3 refine aA rfl rfl ?_
 refine TL.op (OpR.alloc rfl rfl (fun _ => rfl)) rfl (fun p2 => ?_)
 refine TL.op0 (OpR.store 0 rfl rfl rfl rfl rfl rfl rfl rfl) ?_
 refine aA rfl rfl ?_
 refine aN rfl ?_
 refine T.seq ?_
 obtain ⟨x4, hx4, h0⟩ := bS h0
 rcases x4 with x4 | (x4 | (x4 | (x4 | (x4 | (x4 | x4)))))
 · dsimp only at h0
   obtain ⟨x5, hx5, h0⟩ := bS h0
   obtain ⟨x6, hx6, h0⟩ := bS h0
   refine T.drawQ drawsX [.nod [dN a1.fOp, .val (.string (bs a1.fArg)), dT a1.fNot], dN a1.fOp, .agg [.fn (.func 175) [] []], .fn (.func 175) [] [], .agg [.sl 2 (List.map e_arena_Span x1.1.fText.fL), dN x1.1.fText.fN, dN x1.1.fRaw.fAt, dN x1.1.fRaw.fN, dT x1.1.fKept], dQ, .sl 1 (lB x5), .nod [.val (.string (bs a1.fArg)), dT a1.fNot], .val (.string (bs a1.fArg)), .sl 1 (lB a1.fArg), dT x6, .nod [dT a1.fNot], dT a1.fNot, dT (!(x6 == a1.fNot)), dT (!(x6 == a1.fNot))] [6] (by decide +kernel) rfl ?_ rfl ?_
   rotate_left
   · show T X _ _ _
     refine T.ret ?_
     obtain rfl := osi h0
     exact rP [] [6] [] rfl rfl rfl undef (cT rfl ResL.nil) rfl rfl rfl rfl
   iterate 2 refine aB rfl rfl rfl ?_
   refine OpsQ.yes (Want.plain rfl) rfl (OpR.call0 fn112 (filter_of_cx1 hx4) rfl) ?_
   refine aB rfl rfl rfl ?_
   refine OpsQ.yes (Want.plain rfl) rfl (OpR.loadPtr 0 rfl rfl rfl rfl) ?_
   refine aB rfl rfl rfl ?_
   refine OpsQ.yes (Want.plain rfl) rfl (OpR.call0 fn113 (cell_Cell_Bytes_nil_c hx5) rfl) ?_
   iterate 2 refine aB rfl rfl rfl ?_
   refine OpsQ.yes (Want.plain rfl) rfl (OpR.toBytesM rfl rfl rfl rfl rfl rfl rfl) ?_
   refine OpsQ.yes (Want.plain rfl) rfl (OpR.callV [] rfl fn175 (filter_of_1_c hx6) rfl rfl rfl (fun _ => rfl)) ?_
   iterate 2 refine aB rfl rfl rfl ?_
   refine OpsQ.yes (Want.plain rfl) rfl (OpR.neBool rfl rfl rfl rfl) ?_
   refine aB rfl rfl rfl ?_
   exact OpsQ.nil
 · dsimp only at h0
   obtain ⟨x7, hx7, h0⟩ := bS h0
   obtain ⟨x8, hx8, h0⟩ := bS h0
   refine T.drawQ drawsX [.nod [dN a1.fOp, .val (.string (bs a1.fArg)), dT a1.fNot], dN a1.fOp, .agg [.fn (.func 177) [] []], .fn (.func 177) [] [], .agg [.sl 2 (List.map e_arena_Span x1.1.fText.fL), dN x1.1.fText.fN, dN x1.1.fRaw.fAt, dN x1.1.fRaw.fN, dT x1.1.fKept], dQ, .sl 1 (lB x7), .nod [.val (.string (bs a1.fArg)), dT a1.fNot], .val (.string (bs a1.fArg)), .sl 1 (lB a1.fArg), dT x8, .nod [dT a1.fNot], dT a1.fNot, dT (!(x8 == a1.fNot)), dT (!(x8 == a1.fNot))] [6] (by decide +kernel) rfl ?_ rfl ?_
   rotate_left
   · show T X _ _ _
     refine T.ret ?_
     obtain rfl := osi h0
     exact rP [] [6] [] rfl rfl rfl undef (cT rfl ResL.nil) rfl rfl rfl rfl
   iterate 2 refine aB rfl rfl rfl ?_
   refine OpsQ.yes (Want.plain rfl) rfl (OpR.call0 fn112 (filter_of_cx2 hx4) rfl) ?_
   refine aB rfl rfl rfl ?_
   refine OpsQ.yes (Want.plain rfl) rfl (OpR.loadPtr 0 rfl rfl rfl rfl) ?_
   refine aB rfl rfl rfl ?_
   refine OpsQ.yes (Want.plain rfl) rfl (OpR.call0 fn113 (cell_Cell_Bytes_nil_c hx7) rfl) ?_
   iterate 2 refine aB rfl rfl rfl ?_
   refine OpsQ.yes (Want.plain rfl) rfl (OpR.toBytesM rfl rfl rfl rfl rfl rfl rfl) ?_
   refine OpsQ.yes (Want.plain rfl) rfl (OpR.callV [] rfl fn177 (bytes_Equal_c hx8) rfl rfl rfl (fun _ => rfl)) ?_
   iterate 2 refine aB rfl rfl rfl ?_
   refine OpsQ.yes (Want.plain rfl) rfl (OpR.neBool rfl rfl rfl rfl) ?_
   refine aB rfl rfl rfl ?_
   exact OpsQ.nil
 · dsimp only at h0
   obtain ⟨x9, hx9, h0⟩ := bS h0
   obtain ⟨x10, hx10, h0⟩ := bS h0
   refine T.drawQ drawsX [.nod [dN a1.fOp, .val (.string (bs a1.fArg)), dT a1.fNot], dN a1.fOp, .agg [.fn (.func 178) [] []], .fn (.func 178) [] [], .agg [.sl 2 (List.map e_arena_Span x1.1.fText.fL), dN x1.1.fText.fN, dN x1.1.fRaw.fAt, dN x1.1.fRaw.fN, dT x1.1.fKept], dQ, .sl 1 (lB x9), .nod [.val (.string (bs a1.fArg)), dT a1.fNot], .val (.string (bs a1.fArg)), .sl 1 (lB a1.fArg), dT x10, .nod [dT a1.fNot], dT a1.fNot, dT (!(x10 == a1.fNot)), dT (!(x10 == a1.fNot))] [6] (by decide +kernel) rfl ?_ rfl ?_
   rotate_left
   · show T X _ _ _
     refine T.ret ?_
     obtain rfl := osi h0
     exact rP [] [6] [] rfl rfl rfl undef (cT rfl ResL.nil) rfl rfl rfl rfl
   iterate 2 refine aB rfl rfl rfl ?_
   refine OpsQ.yes (Want.plain rfl) rfl (OpR.call0 fn112 (filter_of_cx3 hx4) rfl) ?_
   refine aB rfl rfl rfl ?_
   refine OpsQ.yes (Want.plain rfl) rfl (OpR.loadPtr 0 rfl rfl rfl rfl) ?_
   refine aB rfl rfl rfl ?_
   refine OpsQ.yes (Want.plain rfl) rfl (OpR.call0 fn113 (cell_Cell_Bytes_nil_c hx9) rfl) ?_
   iterate 2 refine aB rfl rfl rfl ?_
   refine OpsQ.yes (Want.plain rfl) rfl (OpR.toBytesM rfl rfl rfl rfl rfl rfl rfl) ?_
   refine OpsQ.yes (Want.plain rfl) rfl (OpR.callV [] rfl fn178 (filter_of_2_c hx10) rfl rfl rfl (fun _ => rfl)) ?_
   iterate 2 refine aB rfl rfl rfl ?_
   refine OpsQ.yes (Want.plain rfl) rfl (OpR.neBool rfl rfl rfl rfl) ?_
   refine aB rfl rfl rfl ?_
   exact OpsQ.nil
 · dsimp only at h0
   obtain ⟨x11, hx11, h0⟩ := bS h0
   obtain ⟨x12, hx12, h0⟩ := bS h0
   refine T.drawQ drawsX [.nod [dN a1.fOp, .val (.string (bs a1.fArg)), dT a1.fNot], dN a1.fOp, .agg [.fn (.func 179) [] []], .fn (.func 179) [] [], .agg [.sl 2 (List.map e_arena_Span x1.1.fText.fL), dN x1.1.fText.fN, dN x1.1.fRaw.fAt, dN x1.1.fRaw.fN, dT x1.1.fKept], dQ, .sl 1 (lB x11), .nod [.val (.string (bs a1.fArg)), dT a1.fNot], .val (.string (bs a1.fArg)), .sl 1 (lB a1.fArg), dT x12, .nod [dT a1.fNot], dT a1.fNot, dT (!(x12 == a1.fNot)), dT (!(x12 == a1.fNot))] [6] (by decide +kernel) rfl ?_ rfl ?_
   rotate_left
   · show T X _ _ _
     refine T.ret ?_
     obtain rfl := osi h0
     exact rP [] [6] [] rfl rfl rfl undef (cT rfl ResL.nil) rfl rfl rfl rfl
   iterate 2 refine aB rfl rfl rfl ?_
   refine OpsQ.yes (Want.plain rfl) rfl (OpR.call0 fn112 (filter_of_cx4 hx4) rfl) ?_
   refine aB rfl rfl rfl ?_
   refine OpsQ.yes (Want.plain rfl) rfl (OpR.loadPtr 0 rfl rfl rfl rfl) ?_
   refine aB rfl rfl rfl ?_
   refine OpsQ.yes (Want.plain rfl) rfl (OpR.call0 fn113 (cell_Cell_Bytes_nil_c hx11) rfl) ?_
   iterate 2 refine aB rfl rfl rfl ?_
   refine OpsQ.yes (Want.plain rfl) rfl (OpR.toBytesM rfl rfl rfl rfl rfl rfl rfl) ?_
   refine OpsQ.yes (Want.plain rfl) rfl (OpR.callV [] rfl fn179 (filter_of_3_c hx12) rfl rfl rfl (fun _ => rfl)) ?_
   iterate 2 refine aB rfl rfl rfl ?_
   refine OpsQ.yes (Want.plain rfl) rfl (OpR.neBool rfl rfl rfl rfl) ?_
   refine aB rfl rfl rfl ?_
   exact OpsQ.nil
 · dsimp only at h0
   obtain ⟨x13, hx13, h0⟩ := bS h0
   obtain ⟨x14, hx14, h0⟩ := bS h0
   refine T.drawQ drawsX [.nod [dN a1.fOp, .val (.string (bs a1.fArg)), dT a1.fNot], dN a1.fOp, .agg [.fn (.func 180) [] []], .fn (.func 180) [] [], .agg [.sl 2 (List.map e_arena_Span x1.1.fText.fL), dN x1.1.fText.fN, dN x1.1.fRaw.fAt, dN x1.1.fRaw.fN, dT x1.1.fKept], dQ, .sl 1 (lB x13), .nod [.val (.string (bs a1.fArg)), dT a1.fNot], .val (.string (bs a1.fArg)), .sl 1 (lB a1.fArg), dT x14, .nod [dT a1.fNot], dT a1.fNot, dT (!(x14 == a1.fNot)), dT (!(x14 == a1.fNot))] [6] (by decide +kernel) rfl ?_ rfl ?_
   rotate_left
   · show T X _ _ _
     refine T.ret ?_
     obtain rfl := osi h0
     exact rP [] [6] [] rfl rfl rfl undef (cT rfl ResL.nil) rfl rfl rfl rfl
   iterate 2 refine aB rfl rfl rfl ?_
   refine OpsQ.yes (Want.plain rfl) rfl (OpR.call0 fn112 (filter_of_cx5 hx4) rfl) ?_
   refine aB rfl rfl rfl ?_
   refine OpsQ.yes (Want.plain rfl) rfl (OpR.loadPtr 0 rfl rfl rfl rfl) ?_
   refine aB rfl rfl rfl ?_
   refine OpsQ.yes (Want.plain rfl) rfl (OpR.call0 fn113 (cell_Cell_Bytes_nil_c hx13) rfl) ?_
   iterate 2 refine aB rfl rfl rfl ?_
   refine OpsQ.yes (Want.plain rfl) rfl (OpR.toBytesM rfl rfl rfl rfl rfl rfl rfl) ?_
   refine OpsQ.yes (Want.plain rfl) rfl (OpR.callV [] rfl fn180 (bytes_HasPrefix_c hx14) rfl rfl rfl (fun _ => rfl)) ?_
   iterate 2 refine aB rfl rfl rfl ?_
   refine OpsQ.yes (Want.plain rfl) rfl (OpR.neBool rfl rfl rfl rfl) ?_
   refine aB rfl rfl rfl ?_
   exact OpsQ.nil
 · dsimp only at h0
   obtain ⟨x15, hx15, h0⟩ := bS h0
   obtain ⟨x16, hx16, h0⟩ := bS h0
   refine T.drawQ drawsX [.nod [dN a1.fOp, .val (.string (bs a1.fArg)), dT a1.fNot], dN a1.fOp, .agg [.fn (.func 181) [] []], .fn (.func 181) [] [], .agg [.sl 2 (List.map e_arena_Span x1.1.fText.fL), dN x1.1.fText.fN, dN x1.1.fRaw.fAt, dN x1.1.fRaw.fN, dT x1.1.fKept], dQ, .sl 1 (lB x15), .nod [.val (.string (bs a1.fArg)), dT a1.fNot], .val (.string (bs a1.fArg)), .sl 1 (lB a1.fArg), dT x16, .nod [dT a1.fNot], dT a1.fNot, dT (!(x16 == a1.fNot)), dT (!(x16 == a1.fNot))] [6] (by decide +kernel) rfl ?_ rfl ?_
   rotate_left
   · show T X _ _ _
     refine T.ret ?_
     obtain rfl := osi h0
     exact rP [] [6] [] rfl rfl rfl undef (cT rfl ResL.nil) rfl rfl rfl rfl
   iterate 2 refine aB rfl rfl rfl ?_
   refine OpsQ.yes (Want.plain rfl) rfl (OpR.call0 fn112 (filter_of_cx6 hx4) rfl) ?_
   refine aB rfl rfl rfl ?_
   refine OpsQ.yes (Want.plain rfl) rfl (OpR.loadPtr 0 rfl rfl rfl rfl) ?_
   refine aB rfl rfl rfl ?_
   refine OpsQ.yes (Want.plain rfl) rfl (OpR.call0 fn113 (cell_Cell_Bytes_nil_c hx15) rfl) ?_
   iterate 2 refine aB rfl rfl rfl ?_
   refine OpsQ.yes (Want.plain rfl) rfl (OpR.toBytesM rfl rfl rfl rfl rfl rfl rfl) ?_
   refine OpsQ.yes (Want.plain rfl) rfl (OpR.callV [] rfl fn181 (bytes_HasSuffix_c hx16) rfl rfl rfl (fun _ => rfl)) ?_
   iterate 2 refine aB rfl rfl rfl ?_
   refine OpsQ.yes (Want.plain rfl) rfl (OpR.neBool rfl rfl rfl rfl) ?_
   refine aB rfl rfl rfl ?_
   exact OpsQ.nil
 dsimp only at h0
 obtain ⟨x17, hx17, h0⟩ := bS h0
 obtain ⟨x18, hx18, h0⟩ := bS h0
 refine T.drawQ drawsX [.nod [dN a1.fOp, .val (.string (bs a1.fArg)), dT a1.fNot], dN a1.fOp, .agg [.fn (.func 182) [] []], .fn (.func 182) [] [], .agg [.sl 2 (List.map e_arena_Span x1.1.fText.fL), dN x1.1.fText.fN, dN x1.1.fRaw.fAt, dN x1.1.fRaw.fN, dT x1.1.fKept], dQ, .sl 1 (lB x17), .nod [.val (.string (bs a1.fArg)), dT a1.fNot], .val (.string (bs a1.fArg)), .sl 1 (lB a1.fArg), dT x18, .nod [dT a1.fNot], dT a1.fNot, dT (!(x18 == a1.fNot)), dT (!(x18 == a1.fNot))] [6] (by decide +kernel) rfl ?_ rfl ?_
 rotate_left
 · show T X _ _ _
   refine T.ret ?_
   obtain rfl := osi h0
   exact rP [] [6] [] rfl rfl rfl undef (cT rfl ResL.nil) rfl rfl rfl rfl
 iterate 2 refine aB rfl rfl rfl ?_
 refine OpsQ.yes (Want.plain rfl) rfl (OpR.call0 fn112 (filter_of_cx7 hx4) rfl) ?_
 refine aB rfl rfl rfl ?_
 refine OpsQ.yes (Want.plain rfl) rfl (OpR.loadPtr 0 rfl rfl rfl rfl) ?_
 refine aB rfl rfl rfl ?_
 refine OpsQ.yes (Want.plain rfl) rfl (OpR.call0 fn113 (cell_Cell_Bytes_nil_c hx17) rfl) ?_
 iterate 2 refine aB rfl rfl rfl ?_
 refine OpsQ.yes (Want.plain rfl) rfl (OpR.toBytesM rfl rfl rfl rfl rfl rfl rfl) ?_
 refine OpsQ.yes (Want.plain rfl) rfl (OpR.callV [] rfl fn182 (filter_of_4_c hx18) rfl rfl rfl (fun _ => rfl)) ?_
 iterate 2 refine aB rfl rfl rfl ?_
 refine OpsQ.yes (Want.plain rfl) rfl (OpR.neBool rfl rfl rfl rfl) ?_
 refine aB rfl rfl rfl ?_
 exact OpsQ.nil
noncomputable def filter_all_nil.l1 (a0 : row_Row) (a1 : List filter_Test) (s3 : Int) : Option (Lp Int (Ex Unit Bool)) :=
  if s3 < (a1.length : Int) then
    bnd (idx a1 s3) fun x12 =>
    bnd (filter_Holds_nil a0 x12) fun x14 =>
    if x14 = true then
      some (Lp.next (w64 (s3 + 1)))
    else
      some (Lp.done (Ex.ret false))
  else
    some (Lp.done (Ex.brk ()))
noncomputable def filter_all_nil (a0 : row_Row) (a1 : List filter_Test) : Option Bool :=
  bnd (loop (filter_all_nil.l1 a0 a1) 0 : Option (Ex Unit Bool)) fun t1 => match t1 with
    | .brk u2 =>
      some true
    | .ret u2 => some u2
theorem filter_all_nil_c {a0 : row_Row} {a1 : List filter_Test} {res : Bool} (h0 : filter_all_nil a0 a1 = some res) : CallF X 118 [.agg [.sl 5 (List.map e_cell_Cell a0.fCells), dN a0.fEnd, dT a0.fHidden], dQ, .sl 4 (List.map e_filter_Test a1)] [] (fun x => (dT res)) (fun x => []) := by
 unfold filter_all_nil at h0
 refine CallF.mkG (X := X) rfl Tryz.func118 rfl rfl Tryz.ntmps118 rfl rfl ?_
 refine aS ?_
 refine TL.op1 (OpR.boxImm rfl rfl) rfl ?_
 refine aA rfl rfl ?_
 refine aN rfl ?_
 refine T.seq ?_
 refine aS ?_
 refine aA rfl rfl ?_
 refine TL.op1 (OpR.cast (OpR.pure rfl) (intE (lenM _ _))) rfl ?_
 refine aA rfl rfl ?_
 refine aN rfl ?_
 obtain ⟨t1, ht1, h0⟩ := bS h0
 refine T.cutC (fun S' => ∃ u2, t1 = Ex.brk u2 ∧ S' = ⟨[(6, (dT false))], [], 21⟩) (fun _ h => h) ?_ ?_
 rotate_left
 · rintro _ ⟨u2, rfl, rfl⟩
   show T X _ _ _
   refine aS ?_
   refine aA rfl rfl ?_
   refine aN rfl ?_
   refine T.ret ?_
   obtain rfl := osi h0
   exact rO [] [6] rfl undef (cT rfl ResL.nil) rfl rfl rfl rfl
 refine T.block ?_
 obtain ⟨n4, n9⟩ := loop_some ht1
 refine T.loop (fun n S' => ∃ S'', Gst S' S'' ∧ ∃ s3 : Int, S'' = ⟨[(11, (dN s3)), (10, (dN (a1.length : Int))), (9, .sl 4 (List.map e_filter_Test a1)), (6, (dT false)), (3, .nod [.sl 5 (List.map e_cell_Cell a0.fCells), dN a0.fEnd, dT a0.fHidden]), (1, dQ)], [], 21⟩ ∧ iter (filter_all_nil.l1 a0 a1) n s3 = some t1) n4 ?_ ?_
 · exact ⟨_, Gst.only [1, 3, 6, 9, 10, 11] rfl, 0, rfl, n9⟩
 rintro n4 _ ⟨_, g, s3, rfl, i8⟩
 refine T.ghost g ?_
 obtain ⟨m5, q6, rfl, q7, i8⟩ := iter_succ i8
 unfold filter_all_nil.l1 at q7
 refine aS ?_
 refine aA rfl rfl ?_
 refine aN rfl ?_
 refine T.seq ?_
 rcases ite_some q7 with ⟨c11, q7⟩ | ⟨c11, q7⟩
 rotate_left
 · refine T.condF rfl (eF c11) ?_
   refine T.exit ?_
   obtain rfl := osi q7
   obtain rfl : _ = _ := i8
   exact ⟨_, Gst.only [6] rfl, _, rfl, rfl⟩
 refine T.condT rfl (eT c11) ?_
 refine aK rfl ?_
 refine T.seq ?_
 refine T.block ?_
 refine aS ?_
 obtain ⟨x12, hx12, q7⟩ := bS q7
 refine TL.op1 (OpR.indexM e_filter_Test hx12 rfl rfl rfl rfl rfl) rfl ?_
 refine aA rfl rfl ?_
 refine TL.op (OpR.alloc rfl rfl (fun _ => rfl)) rfl (fun p13 => ?_)
 refine TL.op0 (OpR.store 0 rfl rfl rfl rfl rfl rfl rfl rfl) ?_
 refine aN rfl ?_
 refine aS ?_
 iterate 2 refine aA rfl rfl ?_
 refine TL.op1 (OpR.loadPtr 0 rfl rfl rfl rfl) rfl ?_
 obtain ⟨x14, hx14, q7⟩ := bS q7
 refine TL.op1 (OpR.call0 fn44 (filter_Holds_nil_c hx14) rfl) rfl ?_
 refine aA rfl rfl ?_
 refine aN rfl ?_
 rcases ite_some q7 with ⟨c15, q7⟩ | ⟨c15, q7⟩
 · refine T.condF rfl (not_t (c15)) ?_
   refine aK rfl ?_
   refine T.region ?_
   iterate 2 refine aA rfl rfl ?_
   refine TL.nil ?_
   obtain rfl := osi q7
   exact ⟨m5, Nat.lt_succ_self _, _, gP [1, 3, 6, 9, 10, 11] [] rfl rfl rfl, w64 (s3 + 1), rfl, i8⟩
 refine T.condT rfl (not_f (eq_false_of_ne_true c15)) ?_
 refine aS ?_
 refine aA rfl rfl ?_
 refine aN rfl ?_
 refine T.ret ?_
 obtain rfl := osi q7
 obtain rfl : _ = _ := i8
 obtain rfl := osi h0
 exact rP [] [6] [] rfl rfl rfl undef (cT rfl ResL.nil) rfl rfl rfl rfl
noncomputable def filter_Show_1_2 (a0 : row_Row) (a1 : List filter_Test) : Option Bool :=
  bnd (filter_all_nil a0 a1) fun x1 =>
  some (!x1)
theorem filter_Show_1_2_c {a0 : row_Row} {a1 : List filter_Test} {b0 : Nat} {b1 : Nat} {res : Bool} (h0 : filter_Show_1_2 a0 a1 = some res) : CallF X 117 [.agg [.sl 5 (List.map e_cell_Cell a0.fCells), dN a0.fEnd, dT a0.fHidden], dP b0, dP b1] [.var b0 [dQ] 28, .var b1 [.sl 4 (List.map e_filter_Test a1)] 88] (fun x => (dT res)) (fun x => [.var b0 [dQ] 28, .var b1 [.sl 4 (List.map e_filter_Test a1)] 88]) := by
 unfold filter_Show_1_2 at h0
 refine CallF.mkG (X := X) rfl Tryz.func117 rfl rfl Tryz.ntmps117 rfl rfl ?_
 refine aS ?_
 refine TL.op1 (OpR.boxImm rfl rfl) rfl ?_
 refine aA rfl rfl ?_
 refine aN rfl ?_
 refine aS ?_
 refine aA rfl rfl ?_
 refine TL.op1 (OpR.loadPtr 0 rfl rfl rfl rfl) rfl ?_
 refine TL.op1 (OpR.loadPtr 1 rfl rfl rfl rfl) rfl ?_
 obtain ⟨x1, hx1, h0⟩ := bS h0
 refine TL.op1 (OpR.call0 fn118 (filter_all_nil_c hx1) rfl) rfl ?_
 iterate 2 refine aA rfl rfl ?_
 refine aN rfl ?_
 refine T.ret ?_
 obtain rfl := osi h0
 exact rO [0, 1] [4] rfl undef (cT rfl ResL.nil) rfl rfl rfl rfl
noncomputable def filter_hide_1_3 (a0 : Int) (a1 : row_Row) (a2 : List filter_Test) : Option row_Row :=
  bnd (filter_Show_1_2 a1 a2) fun x3 =>
  bnd (row_Row_Hide a1 x3) fun x4 =>
  some x4
theorem filter_hide_1_3_c {a0 : Int} {a1 : row_Row} {a2 : List filter_Test} {b0 : Nat} {b1 : Nat} {b2 : Nat} {res : row_Row} (h0 : filter_hide_1_3 a0 a1 a2 = some res) : CallF X 185 [dN a0, .agg [.sl 5 (List.map e_cell_Cell a1.fCells), dN a1.fEnd, dT a1.fHidden], dP b0] [.var b0 [.fn (.func 117) [] [dP b1, dP b2]] 130, .var b1 [dQ] 28, .var b2 [.sl 4 (List.map e_filter_Test a2)] 88] (fun x => .agg [.sl 5 (List.map e_cell_Cell res.fCells), dN res.fEnd, dT res.fHidden]) (fun x => [.var b0 [.fn (.func 117) [] [dP b1, dP b2]] 130, .var b1 [dQ] 28, .var b2 [.sl 4 (List.map e_filter_Test a2)] 88]) := by
 unfold filter_hide_1_3 at h0
 refine CallF.mkG (X := X) rfl Tryz.func185 rfl rfl Tryz.ntmps185 rfl rfl ?_
 refine aS ?_
 refine TL.op1 (OpR.boxImm rfl rfl) rfl ?_
 refine TL.op (OpR.alloc rfl rfl (fun _ => rfl)) rfl (fun p1 => ?_)
 refine aN rfl ?_
 refine T.seq ?_
 obtain ⟨x3, hx3, h0⟩ := bS h0
 obtain ⟨x4, hx4, h0⟩ := bS h0
 refine T.drawS drawsX (fun env2 => [.agg [.sl 5 (List.map e_cell_Cell a1.fCells), dN a1.fEnd, dT a1.fHidden], .fn (.func 117) [] [dP b1, dP b2], .agg [.sl 5 (List.map e_cell_Cell a1.fCells), dN a1.fEnd, dT a1.fHidden], dT x3, .agg [.sl 5 (List.map e_cell_Cell x4.fCells), dN x4.fEnd, dT x4.fHidden], .dead]) (fun D env2 => [.var b0 [.fn (.func 117) [] [dP b1, dP b2]] 130, .var b1 [dQ] 28, .var b2 [.sl 4 (List.map e_filter_Test a2)] 88, (bif D 5 then .var (blk p1) [.sl 5 (List.map e_cell_Cell x4.fCells), dN x4.fEnd, dT x4.fHidden] 49 else .var (blk p1) [.val (.slice none 0 0), dN 0, dT false] 49)]) [0, 0, 0, 6, 15, 31] [5] _ (by decide +kernel) (by decide +kernel) (fun _ => rfl) (fun _ => rfl) ?_ (fun _ => rfl) (fun _ => rfl) ?_
 rotate_left
 · intro env2
   show T X _ _ _
   refine T.ret ?_
   obtain rfl := osi h0
   exact rO [0, 1, 2] [5] rfl undef (cV 3 rfl rfl rfl rfl ResL.nil) rfl rfl rfl rfl
 refine aC ?_
 refine oT (.fn (.func 117) [] [dP b1, dP b2]) (fun _ _ => OpR.loadPtr 0 rfl rfl rfl rfl) ?_
 refine aC ?_
 refine OpsS.cons' true ?_ (fun _ _ _ _ _ _ _ => rfl) ?_
 · intro D env2 hA
   have e5 : D 5 = false := hA.no 5 _ rfl rfl
   exact OpS.yp [(5, false)] ⟨e5, trivial⟩ (Want.plain rfl) (OpR.callV [1, 2] rfl fn117 (filter_Show_1_2_c hx3) rfl rfl rfl (fun _ => rfl)) (fun x => rfl) (fun x => rfl)
 refine oT (.agg [.sl 5 (List.map e_cell_Cell x4.fCells), dN x4.fEnd, dT x4.fHidden]) (fun _ _ => OpR.call0 fn121 (row_Row_Hide_c hx4) rfl) ?_
 refine OpsS.cons' true ?_ (fun _ _ _ _ _ _ _ => rfl) ?_
 · intro D env2 hA
   exact OpS.yp [(5, false)] ⟨hA.me, trivial⟩ (Want.plain rfl) (OpR.store 3 rfl rfl rfl rfl rfl rfl rfl rfl) (fun x => rfl) (fun x => rfl)
 exact trivial
noncomputable def walk_Map_row_Row_3.l1 (a1 : List filter_Test) (x3 : (List row_Row)) (s6 : Int × (List row_Row)) : Option (Lp (Int × (List row_Row)) (List row_Row)) :=
  if s6.1 < (x3.length : Int) then
    bnd (idx s6.2 s6.1) fun x15 =>
    bnd (filter_hide_1_3 s6.1 x15 a1) fun x17 =>
    some (Lp.next (w64 (s6.1 + 1), (s6.2.set s6.1.toNat x17)))
  else
    some (Lp.done s6.2)
noncomputable def walk_Map_row_Row_3 (a0 : tTr) (a1 : List filter_Test) : Option tTr :=
  bnd (walk_All_row_Row a0) fun x2 =>
  bnd (slices_Clone_row_Row_row_Row x2) fun x3 =>
  bnd (loop (walk_Map_row_Row_3.l1 a1 x3) (0, x3) : Option (List row_Row)) fun t5 =>
  bnd (tree_Of_row_Row t5) fun x18 =>
  some x18
theorem walk_Map_row_Row_3_c {a0 : tTr} {a1 : List filter_Test} {b0 : Nat} {b1 : Nat} {b2 : Nat} {res : tTr} (h0 : walk_Map_row_Row_3 a0 a1 = some res) : CallF X 137 [.agg [(eOP a0.fRoot)], .fn (.func 185) [] [dP b0]] [.var b0 [.fn (.func 117) [] [dP b1, dP b2]] 130, .var b1 [dQ] 28, .var b2 [.sl 4 (List.map e_filter_Test a1)] 88] (fun x => .agg [(eOP res.fRoot)]) (fun x => [.var b0 [.fn (.func 117) [] [dP b1, dP b2]] 130, .var b1 [dQ] 28, .var b2 [.sl 4 (List.map e_filter_Test a1)] 88]) := by
 unfold walk_Map_row_Row_3 at h0
 refine CallF.mkG (X := X) rfl Tryz.func137 rfl rfl Tryz.ntmps137 rfl rfl ?_
 refine aS ?_
 refine TL.op1 (OpR.boxImm rfl rfl) rfl ?_
 refine TL.op (OpR.alloc rfl rfl (fun _ => rfl)) rfl (fun p1 => ?_)
 refine aN rfl ?_
 refine aS ?_
 refine aA rfl rfl ?_
 obtain ⟨x2, hx2, h0⟩ := bS h0
 refine TL.op1 (OpR.call0 fn100 (walk_All_row_Row_c hx2) rfl) rfl ?_
 obtain ⟨x3, hx3, h0⟩ := bS h0
 refine TL.op (OpR.call [] fn191 (slices_Clone_row_Row_row_Row_c hx3) rfl rfl rfl (fun _ => rfl)) rfl (fun w4 => ?_)
 refine aA rfl rfl ?_
 refine aN rfl ?_
 refine T.seq ?_
 refine aS ?_
 refine aA rfl rfl ?_
 refine TL.op1 (OpR.rowLenM e_row_Row 4 rfl rfl rfl rfl) rfl ?_
 refine aA rfl rfl ?_
 refine aN rfl ?_
 obtain ⟨t5, ht5, h0⟩ := bS h0
 refine T.cutC (fun S' => S' = ⟨[(5, .val (vn w4 0)), (4, (dP (blk p1)))], [.var b0 [.fn (.func 117) [] [dP b1, dP b2]] 130, .var b1 [dQ] 28, .var b2 [.sl 4 (List.map e_filter_Test a1)] 88, .var (blk p1) [(eOP none)] 25, .row (vn w4 0) (List.map e_row_Row t5) 3 49], 28⟩) (fun _ h => h) ?_ ?_
 rotate_left
 · rintro _ rfl
   show T X _ _ _
   refine aS ?_
   refine aA rfl rfl ?_
   refine TL.ghost (Gst.freezeRow 4 rfl rfl (ReS.cons (Re.base .all) (ReS.refl _)) (ReO.same (ReO.same (ReO.same (ReO.same (ReO.same ReO.nil)))))) ?_
   obtain ⟨x18, hx18, h0⟩ := bS h0
   refine TL.op1 (OpR.call0 fn101 (tree_Of_row_Row_c hx18) rfl) rfl ?_
   refine TL.op0 (OpR.store 3 rfl rfl rfl rfl rfl rfl rfl rfl) ?_
   refine aN rfl ?_
   refine T.ret ?_
   obtain rfl := osi h0
   exact rP [0, 1, 2] [4] [0, 1, 2, 3] rfl rfl rfl undef (cV 3 rfl rfl rfl rfl ResL.nil) rfl rfl rfl rfl
 refine T.block ?_
 obtain ⟨n7, n12⟩ := loop_some ht5
 refine T.loop (fun n S' => ∃ S'', Gst S' S'' ∧ ∃ s6 : Int × (List row_Row), S'' = ⟨[(13, (dN s6.1)), (12, (dN (x3.length : Int))), (11, .val (vn w4 0)), (5, .val (vn w4 0)), (4, (dP (blk p1))), (1, .fn (.func 185) [] [dP b0])], [.var b0 [.fn (.func 117) [] [dP b1, dP b2]] 130, .var b1 [dQ] 28, .var b2 [.sl 4 (List.map e_filter_Test a1)] 88, .var (blk p1) [(eOP none)] 25, .row (vn w4 0) (List.map e_row_Row s6.2) 3 49], 28⟩ ∧ iter (walk_Map_row_Row_3.l1 a1 x3) n s6 = some t5) n7 ?_ ?_
 · exact ⟨_, Gst.only [1, 4, 5, 11, 12, 13] rfl, (0, x3), rfl, n12⟩
 rintro n7 _ ⟨_, g, s6, rfl, i11⟩
 refine T.ghost g ?_
 obtain ⟨m8, q9, rfl, q10, i11⟩ := iter_succ i11
 unfold walk_Map_row_Row_3.l1 at q10
 refine aS ?_
 refine aA rfl rfl ?_
 refine aN rfl ?_
 refine T.seq ?_
 rcases ite_some q10 with ⟨c14, q10⟩ | ⟨c14, q10⟩
 rotate_left
 · refine T.condF rfl (eF c14) ?_
   refine T.exit ?_
   obtain rfl := osi q10
   obtain rfl : _ = _ := i11
   exact ⟨_, Gst.only [4, 5] rfl, rfl⟩
 refine T.condT rfl (eT c14) ?_
 refine aK rfl ?_
 refine T.seq ?_
 refine T.block ?_
 refine aS ?_
 refine aA rfl rfl ?_
 obtain ⟨x15, hx15, q10⟩ := bS q10
 refine TL.op1 (OpR.rowIndexM e_row_Row 4 hx15 rfl rfl rfl rfl rfl rfl rfl) rfl ?_
 refine TL.op1 (OpR.rowLoad0M (j := s6.1) e_row_Row 4 hx15 rfl rfl rfl rfl) rfl ?_
 refine TL.op (OpR.alloc rfl rfl (fun _ => rfl)) rfl (fun p16 => ?_)
 refine aA rfl rfl ?_
 refine TL.op0 (OpR.store 5 rfl rfl rfl rfl rfl rfl rfl rfl) ?_
 refine aN rfl ?_
 refine T.region ?_
 iterate 4 refine aA rfl rfl ?_
 refine TL.op1 (OpR.loadPtr 5 rfl rfl rfl rfl) rfl ?_
 obtain ⟨x17, hx17, q10⟩ := bS q10
 refine TL.op1 (OpR.callV [0, 1, 2] rfl fn185 (filter_hide_1_3_c hx17) rfl rfl rfl (fun _ => rfl)) rfl ?_
 refine TL.op1 (OpR.rowIndexM e_row_Row 4 hx15 rfl rfl rfl rfl rfl rfl rfl) rfl ?_
 refine TL.op0 (OpR.rowStore0M (j := s6.1) e_row_Row x17 4 hx15 rfl rfl rfl rfl rfl rfl rfl rfl rfl) ?_
 refine aN rfl ?_
 refine T.region ?_
 iterate 2 refine aA rfl rfl ?_
 refine TL.nil ?_
 obtain rfl := osi q10
 exact ⟨m8, Nat.lt_succ_self _, _, gP [1, 4, 5, 11, 12, 13] [0, 1, 2, 3, 4] rfl rfl rfl, (w64 (s6.1 + 1), (s6.2.set s6.1.toNat x17)), rfl, i11⟩
noncomputable def filter_hide_3 (a0 : grid_Grid) (a1 : List filter_Test) : Option grid_Grid :=
  bnd (walk_Map_row_Row_3 a0.fRows a1) fun x4 =>
  some (⟨x4, a0.fTail, a0.fEnd⟩ : grid_Grid)
theorem filter_hide_3_c {a0 : grid_Grid} {a1 : List filter_Test} {b0 : Nat} {b1 : Nat} {res : grid_Grid} (h0 : filter_hide_3 a0 a1 = some res) : CallF X 116 [.agg [(eOP a0.fRows.fRoot), dT a0.fTail, dN a0.fEnd], .fn (.func 117) [] [dP b0, dP b1]] [.var b0 [dQ] 28, .var b1 [.sl 4 (List.map e_filter_Test a1)] 88] (fun x => .agg [(eOP res.fRows.fRoot), dT res.fTail, dN res.fEnd]) (fun x => [.var b0 [dQ] 28, .var b1 [.sl 4 (List.map e_filter_Test a1)] 88]) := by
 unfold filter_hide_3 at h0
 refine CallF.mkG (X := X) rfl Tryz.func116 rfl rfl Tryz.ntmps116 rfl rfl ?_
 refine aS ?_
 refine TL.op (OpR.boxVar rfl rfl (fun _ => rfl)) rfl (fun p1 => ?_)
 refine TL.op (OpR.boxVar rfl rfl (fun _ => rfl)) rfl (fun p2 => ?_)
 refine TL.op (OpR.alloc rfl rfl (fun _ => rfl)) rfl (fun p3 => ?_)
 refine aN rfl ?_
 refine aS ?_
 refine aA rfl rfl ?_
 refine TL.op1 (OpR.loadPtr 2 rfl rfl rfl rfl) rfl ?_
 refine aA rfl rfl ?_
 obtain ⟨x4, hx4, h0⟩ := bS h0
 refine TL.op1 (OpR.call [3, 0, 1] fn137 (walk_Map_row_Row_3_c hx4) rfl rfl rfl (fun _ => rfl)) rfl ?_
 refine aA rfl rfl ?_
 refine TL.op0 (OpR.store 2 rfl rfl rfl rfl rfl rfl rfl rfl) ?_
 refine aN rfl ?_
 refine aS ?_
 refine TL.op1 (OpR.loadPtr 2 rfl rfl rfl rfl) rfl ?_
 refine TL.op0 (OpR.store 4 rfl rfl rfl rfl rfl rfl rfl rfl) ?_
 refine aN rfl ?_
 refine T.ret ?_
 obtain rfl := osi h0
 exact rP [0, 1] [4] [0, 1, 4] rfl rfl rfl undef (cV 2 rfl rfl rfl rfl ResL.nil) rfl rfl rfl rfl
noncomputable def filter_Show_nil (a0 : grid_Grid) (a1 : List filter_Test) : Option (grid_Grid × Int) :=
  bnd (filter_wrong a1) fun x4 =>
  if x4 = true then
    some ((⟨(⟨none⟩ : tTr), false, 0⟩ : grid_Grid), 1)
  else
    bnd (filter_hide_3 a0 a1) fun x6 =>
    some (x6, 0)
theorem filter_Show_nil_c {a0 : grid_Grid} {a1 : List filter_Test} {res : grid_Grid × Int} (h0 : filter_Show_nil a0 a1 = some res) : CallF X 47 [.agg [(eOP a0.fRows.fRoot), dT a0.fTail, dN a0.fEnd], dQ, .sl 4 (List.map e_filter_Test a1)] [] (fun x => .tup [.agg [(eOP res.1.fRows.fRoot), dT res.1.fTail, dN res.1.fEnd], dN res.2]) (fun x => []) := by
 unfold filter_Show_nil at h0
 refine CallF.mkG (X := X) rfl Tryz.func47 rfl rfl Tryz.ntmps47 rfl rfl ?_
 refine aS ?_
 refine TL.op1 (OpR.boxImm rfl rfl) rfl ?_
 refine TL.op (OpR.boxVar rfl rfl (fun _ => rfl)) rfl (fun p1 => ?_)
 refine TL.op (OpR.boxVar rfl rfl (fun _ => rfl)) rfl (fun p2 => ?_)
 refine TL.op (OpR.alloc rfl rfl (fun _ => rfl)) rfl (fun p3 => ?_)
 refine aA rfl rfl ?_
 refine aN rfl ?_
 refine T.seq ?_
 refine aS ?_
 refine TL.op1 (OpR.loadPtr 1 rfl rfl rfl rfl) rfl ?_
 obtain ⟨x4, hx4, h0⟩ := bS h0
 refine TL.op1 (OpR.call0 fn115 (filter_wrong_c hx4) rfl) rfl ?_
 refine aN rfl ?_
 rcases ite_some h0 with ⟨c5, h0⟩ | ⟨c5, h0⟩
 · refine T.condT rfl (c5) ?_
   refine aS ?_
   refine TL.op1 (OpR.build rfl rfl rfl rfl rfl) rfl ?_
   refine TL.op0 (OpR.store 2 rfl rfl rfl rfl rfl rfl rfl rfl) ?_
   refine aA rfl rfl ?_
   refine aN rfl ?_
   refine T.ret ?_
   obtain rfl := osi h0
   exact rP [] [6, 7] [2] rfl rfl rfl undef (cV 0 rfl rfl rfl rfl (cT rfl ResL.nil)) rfl rfl rfl rfl
 refine T.condF rfl (eq_false_of_ne_true c5) ?_
 refine aK rfl ?_
 refine aS ?_
 iterate 2 refine aA rfl rfl ?_
 obtain ⟨x6, hx6, h0⟩ := bS h0
 refine TL.op1 (OpR.call [0, 1] fn116 (filter_hide_3_c hx6) rfl rfl rfl (fun _ => rfl)) rfl ?_
 refine TL.op0 (OpR.store 2 rfl rfl rfl rfl rfl rfl rfl rfl) ?_
 refine aA rfl rfl ?_
 refine aN rfl ?_
 refine T.ret ?_
 obtain rfl := osi h0
 exact rP [] [6, 7] [2] rfl rfl rfl undef (cV 0 rfl rfl rfl rfl (cT rfl ResL.nil)) rfl rfl rfl rfl
noncomputable def law18_awake : Option Bool :=
  bnd (filter_Parse [50, 60, 49, 48]) fun x1 =>
  bnd (filter_Parse [33, 49, 63]) fun x3 =>
  bnd (grid_Load [97, 44, 57, 10, 98, 44, 49, 48, 10, 99]) fun x6 =>
  match x6 with
  | .inl x6 =>
      bnd (filter_Show x6.1 [x1.1] x6.2.2) fun x9 =>
      bnd (if x1.2 = 0 then
        if x1.1 = (⟨1, 2, [49, 48], false⟩ : filter_Test) then
          if x3.2 = 0 then
            if x3.1 = (⟨0, 6, [], true⟩ : filter_Test) then
              if x9.2 = 0 then
                bnd (grid_Grid_Visible x9.1) fun x17 =>
                if (x17.length : Int) = 1 then
                  bnd (filter_All x9.1) fun x19 =>
                  bnd (grid_Grid_Visible x19) fun x20 =>
                  some ((x20.length : Int) == 3)
                else
                  some false
              else
                some false
            else
              some false
          else
            some false
        else
          some false
      else
        some false : Option Bool) fun t11 =>
      some t11
  | .inr x6 =>
      bnd (filter_Show_nil x6.1 [x1.1]) fun x22 =>
      bnd (if x1.2 = 0 then
        if x1.1 = (⟨1, 2, [49, 48], false⟩ : filter_Test) then
          if x3.2 = 0 then
            if x3.1 = (⟨0, 6, [], true⟩ : filter_Test) then
              if x22.2 = 0 then
                bnd (grid_Grid_Visible x22.1) fun x30 =>
                if (x30.length : Int) = 1 then
                  bnd (filter_All x22.1) fun x32 =>
                  bnd (grid_Grid_Visible x32) fun x33 =>
                  some ((x33.length : Int) == 3)
                else
                  some false
              else
                some false
            else
              some false
          else
            some false
        else
          some false
      else
        some false : Option Bool) fun t24 =>
      some t24
theorem law18_awake_c {res : Bool} (h0 : law18_awake = some res) : CallF X 38 [] [] (fun x => (dT res)) (fun x => []) := by
 unfold law18_awake at h0
 refine CallF.mkG (X := X) rfl Tryz.func38 rfl rfl Tryz.ntmps38 rfl rfl ?_
 refine aS ?_
 refine aA rfl rfl ?_
 refine aN rfl ?_
 refine aS ?_
 obtain ⟨x1, hx1, h0⟩ := bS h0
 refine TL.op1 (OpR.call0 fn31 (filter_Parse_c hx1) rfl) rfl ?_
 iterate 3 refine aA rfl rfl ?_
 refine TL.op (OpR.alloc rfl rfl (fun _ => rfl)) rfl (fun p2 => ?_)
 refine TL.op0 (OpR.store 0 rfl rfl rfl rfl rfl rfl rfl rfl) ?_
 refine aA rfl rfl ?_
 refine aN rfl ?_
 refine aS ?_
 obtain ⟨x3, hx3, h0⟩ := bS h0
 refine TL.op1 (OpR.call0 fn31 (filter_Parse_c hx3) rfl) rfl ?_
 iterate 3 refine aA rfl rfl ?_
 refine TL.op (OpR.alloc rfl rfl (fun _ => rfl)) rfl (fun p4 => ?_)
 refine TL.op0 (OpR.store 1 rfl rfl rfl rfl rfl rfl rfl rfl) ?_
 refine aA rfl rfl ?_
 refine aN rfl ?_
 refine aS ?_
 refine TL.op (OpR.litRow rfl rfl rfl rfl rfl rfl rfl rfl (fun _ => rfl)) rfl (fun v5 => ?_)
 refine TL.op1 (OpR.markRow 2 rfl rfl rfl rfl rfl rfl rfl rfl) rfl ?_
 obtain ⟨x6, hx6, h0⟩ := bS h0
 rcases x6 with x6 | x6
 rotate_left
 · dsimp only at h0
   refine TL.op1 (OpR.call0 fn67 (grid_Load_cx2 hx6) rfl) rfl ?_
   iterate 4 refine aA rfl rfl ?_
   refine TL.op (OpR.alloc rfl rfl (fun _ => rfl)) rfl (fun p21 => ?_)
   refine TL.op0 (OpR.store 3 rfl rfl rfl rfl rfl rfl rfl rfl) ?_
   iterate 2 refine aA rfl rfl ?_
   refine aN rfl ?_
   refine aS ?_
   refine TL.op1 (OpR.loadPtr 3 rfl rfl rfl rfl) rfl ?_
   refine aA rfl rfl ?_
   refine TL.op1 (OpR.loadPtr 0 rfl rfl rfl rfl) rfl ?_
   refine TL.op1 (OpR.lit rfl rfl rfl rfl rfl rfl rfl) rfl ?_
   obtain ⟨x22, hx22, h0⟩ := bS h0
   refine TL.op1 (OpR.call0 fn47 (filter_Show_nil_c hx22) rfl) rfl ?_
   iterate 3 refine aA rfl rfl ?_
   refine TL.op (OpR.alloc rfl rfl (fun _ => rfl)) rfl (fun p23 => ?_)
   refine TL.op0 (OpR.store 4 rfl rfl rfl rfl rfl rfl rfl rfl) ?_
   refine aA rfl rfl ?_
   refine aN rfl ?_
   refine T.seq ?_
   obtain ⟨t24, ht24, h0⟩ := bS h0
   refine T.cutC (fun S' => S' = ⟨[(0, (dT t24))], [], 66⟩) (fun _ h => h) ?_ ?_
   rotate_left
   · rintro _ rfl
     show T X _ _ _
     refine T.ret ?_
     obtain rfl := osi h0
     exact rO [] [0] rfl undef (cT rfl ResL.nil) rfl rfl rfl rfl
   refine T.region ?_
   iterate 3 refine aA rfl rfl ?_
   rcases ite_some ht24 with ⟨c25, ht24⟩ | ⟨c25, ht24⟩
   rotate_left
   · refine TL.off rfl rfl rfl rfl (beq_eq_false_iff_ne.2 c25) rfl rfl ?_
     refine TL.off rfl rfl rfl rfl (beq_eq_false_iff_ne.2 c25) rfl rfl ?_
     refine TL.off rfl rfl rfl rfl (beq_eq_false_iff_ne.2 c25) rfl rfl ?_
     refine TL.op1 (OpR.pickF rfl (beq_eq_false_iff_ne.2 c25) rfl) rfl ?_
     refine aA rfl rfl ?_
     refine TL.off rfl rfl rfl rfl rfl rfl rfl ?_
     refine TL.off rfl rfl rfl rfl rfl rfl rfl ?_
     refine TL.op1 (OpR.pickF rfl rfl rfl) rfl ?_
     refine aA rfl rfl ?_
     refine TL.off rfl rfl rfl rfl rfl rfl rfl ?_
     refine TL.off rfl rfl rfl rfl rfl rfl rfl ?_
     refine TL.off rfl rfl rfl rfl rfl rfl rfl ?_
     refine TL.op1 (OpR.pickF rfl rfl rfl) rfl ?_
     refine aA rfl rfl ?_
     refine TL.off rfl rfl rfl rfl rfl rfl rfl ?_
     refine TL.off rfl rfl rfl rfl rfl rfl rfl ?_
     refine TL.op1 (OpR.pickF rfl rfl rfl) rfl ?_
     refine aA rfl rfl ?_
     refine TL.off rfl rfl rfl rfl rfl rfl rfl ?_
     refine TL.off rfl rfl rfl rfl rfl rfl rfl ?_
     refine TL.off rfl rfl rfl rfl rfl rfl rfl ?_
     refine TL.off rfl rfl rfl rfl rfl rfl rfl ?_
     refine TL.op1 (OpR.pickF rfl rfl rfl) rfl ?_
     refine aA rfl rfl ?_
     refine TL.off rfl rfl rfl rfl rfl rfl rfl ?_
     refine TL.off rfl rfl rfl rfl rfl rfl rfl ?_
     refine TL.off rfl rfl rfl rfl rfl rfl rfl ?_
     refine TL.off rfl rfl rfl rfl rfl rfl rfl ?_
     refine TL.off rfl rfl rfl rfl rfl rfl rfl ?_
     refine TL.op1 (OpR.pickF rfl rfl rfl) rfl ?_
     refine aA rfl rfl ?_
     refine TL.nil ?_
     obtain rfl := osi ht24
     exact ⟨_, gP [0] [] rfl rfl rfl, rfl⟩
   refine TL.on rfl rfl rfl rfl (beq_iff_eq.2 c25) ?_
   refine TL.op1 (OpR.loadPtr 0 rfl rfl rfl rfl) rfl ?_
   refine TL.on rfl rfl rfl rfl (beq_iff_eq.2 c25) ?_
   refine TL.op1 (OpR.build rfl rfl rfl rfl rfl) rfl ?_
   refine TL.on rfl rfl rfl rfl (beq_iff_eq.2 c25) ?_
   refine TL.op1 (OpR.cast (OpR.eqStruct rfl rfl rfl rfl rfl (by kernel_rfl) (by kernel_rfl)) (boolE (beq_filter_Test x1.1 (⟨1, 2, [49, 48], false⟩ : filter_Test)))) rfl ?_
   refine TL.op1 (OpR.pickT rfl (beq_iff_eq.2 c25) rfl) rfl ?_
   refine aA rfl rfl ?_
   rcases ite_some ht24 with ⟨c26, ht24⟩ | ⟨c26, ht24⟩
   rotate_left
   · refine TL.off rfl rfl rfl rfl (beq_eq_false_iff_ne.2 c26) rfl rfl ?_
     refine TL.off rfl rfl rfl rfl (beq_eq_false_iff_ne.2 c26) rfl rfl ?_
     refine TL.op1 (OpR.pickF rfl (beq_eq_false_iff_ne.2 c26) rfl) rfl ?_
     refine aA rfl rfl ?_
     refine TL.off rfl rfl rfl rfl rfl rfl rfl ?_
     refine TL.off rfl rfl rfl rfl rfl rfl rfl ?_
     refine TL.off rfl rfl rfl rfl rfl rfl rfl ?_
     refine TL.op1 (OpR.pickF rfl rfl rfl) rfl ?_
     refine aA rfl rfl ?_
     refine TL.off rfl rfl rfl rfl rfl rfl rfl ?_
     refine TL.off rfl rfl rfl rfl rfl rfl rfl ?_
     refine TL.op1 (OpR.pickF rfl rfl rfl) rfl ?_
     refine aA rfl rfl ?_
     refine TL.off rfl rfl rfl rfl rfl rfl rfl ?_
     refine TL.off rfl rfl rfl rfl rfl rfl rfl ?_
     refine TL.off rfl rfl rfl rfl rfl rfl rfl ?_
     refine TL.off rfl rfl rfl rfl rfl rfl rfl ?_
     refine TL.op1 (OpR.pickF rfl rfl rfl) rfl ?_
     refine aA rfl rfl ?_
     refine TL.off rfl rfl rfl rfl rfl rfl rfl ?_
     refine TL.off rfl rfl rfl rfl rfl rfl rfl ?_
     refine TL.off rfl rfl rfl rfl rfl rfl rfl ?_
     refine TL.off rfl rfl rfl rfl rfl rfl rfl ?_
     refine TL.off rfl rfl rfl rfl rfl rfl rfl ?_
     refine TL.op1 (OpR.pickF rfl rfl rfl) rfl ?_
     refine aA rfl rfl ?_
     refine TL.nil ?_
     obtain rfl := osi ht24
     exact ⟨_, gP [0] [] rfl rfl rfl, rfl⟩
   refine TL.on rfl rfl rfl rfl (beq_iff_eq.2 c26) ?_
   refine aA rfl rfl ?_
   refine TL.on rfl rfl rfl rfl (beq_iff_eq.2 c26) ?_
   refine aA rfl rfl ?_
   refine TL.op1 (OpR.pickT rfl (beq_iff_eq.2 c26) rfl) rfl ?_
   refine aA rfl rfl ?_
   rcases ite_some ht24 with ⟨c27, ht24⟩ | ⟨c27, ht24⟩
   rotate_left
   · refine TL.off rfl rfl rfl rfl (beq_eq_false_iff_ne.2 c27) rfl rfl ?_
     refine TL.off rfl rfl rfl rfl (beq_eq_false_iff_ne.2 c27) rfl rfl ?_
     refine TL.off rfl rfl rfl rfl (beq_eq_false_iff_ne.2 c27) rfl rfl ?_
     refine TL.op1 (OpR.pickF rfl (beq_eq_false_iff_ne.2 c27) rfl) rfl ?_
     refine aA rfl rfl ?_
     refine TL.off rfl rfl rfl rfl rfl rfl rfl ?_
     refine TL.off rfl rfl rfl rfl rfl rfl rfl ?_
     refine TL.op1 (OpR.pickF rfl rfl rfl) rfl ?_
     refine aA rfl rfl ?_
     refine TL.off rfl rfl rfl rfl rfl rfl rfl ?_
     refine TL.off rfl rfl rfl rfl rfl rfl rfl ?_
     refine TL.off rfl rfl rfl rfl rfl rfl rfl ?_
     refine TL.off rfl rfl rfl rfl rfl rfl rfl ?_
     refine TL.op1 (OpR.pickF rfl rfl rfl) rfl ?_
     refine aA rfl rfl ?_
     refine TL.off rfl rfl rfl rfl rfl rfl rfl ?_
     refine TL.off rfl rfl rfl rfl rfl rfl rfl ?_
     refine TL.off rfl rfl rfl rfl rfl rfl rfl ?_
     refine TL.off rfl rfl rfl rfl rfl rfl rfl ?_
     refine TL.off rfl rfl rfl rfl rfl rfl rfl ?_
     refine TL.op1 (OpR.pickF rfl rfl rfl) rfl ?_
     refine aA rfl rfl ?_
     refine TL.nil ?_
     obtain rfl := osi ht24
     exact ⟨_, gP [0] [] rfl rfl rfl, rfl⟩
   refine TL.on rfl rfl rfl rfl (beq_iff_eq.2 c27) ?_
   refine TL.op1 (OpR.loadPtr 1 rfl rfl rfl rfl) rfl ?_
   refine TL.on rfl rfl rfl rfl (beq_iff_eq.2 c27) ?_
   refine TL.op1 (OpR.build rfl rfl rfl rfl rfl) rfl ?_
   refine TL.on rfl rfl rfl rfl (beq_iff_eq.2 c27) ?_
   refine TL.op1 (OpR.cast (OpR.eqStruct rfl rfl rfl rfl rfl (by kernel_rfl) (by kernel_rfl)) (boolE (beq_filter_Test x3.1 (⟨0, 6, [], true⟩ : filter_Test)))) rfl ?_
   refine TL.op1 (OpR.pickT rfl (beq_iff_eq.2 c27) rfl) rfl ?_
   refine aA rfl rfl ?_
   rcases ite_some ht24 with ⟨c28, ht24⟩ | ⟨c28, ht24⟩
   rotate_left
   · refine TL.off rfl rfl rfl rfl (beq_eq_false_iff_ne.2 c28) rfl rfl ?_
     refine TL.off rfl rfl rfl rfl (beq_eq_false_iff_ne.2 c28) rfl rfl ?_
     refine TL.op1 (OpR.pickF rfl (beq_eq_false_iff_ne.2 c28) rfl) rfl ?_
     refine aA rfl rfl ?_
     refine TL.off rfl rfl rfl rfl rfl rfl rfl ?_
     refine TL.off rfl rfl rfl rfl rfl rfl rfl ?_
     refine TL.off rfl rfl rfl rfl rfl rfl rfl ?_
     refine TL.off rfl rfl rfl rfl rfl rfl rfl ?_
     refine TL.op1 (OpR.pickF rfl rfl rfl) rfl ?_
     refine aA rfl rfl ?_
     refine TL.off rfl rfl rfl rfl rfl rfl rfl ?_
     refine TL.off rfl rfl rfl rfl rfl rfl rfl ?_
     refine TL.off rfl rfl rfl rfl rfl rfl rfl ?_
     refine TL.off rfl rfl rfl rfl rfl rfl rfl ?_
     refine TL.off rfl rfl rfl rfl rfl rfl rfl ?_
     refine TL.op1 (OpR.pickF rfl rfl rfl) rfl ?_
     refine aA rfl rfl ?_
     refine TL.nil ?_
     obtain rfl := osi ht24
     exact ⟨_, gP [0] [] rfl rfl rfl, rfl⟩
   refine TL.on rfl rfl rfl rfl (beq_iff_eq.2 c28) ?_
   refine aA rfl rfl ?_
   refine TL.on rfl rfl rfl rfl (beq_iff_eq.2 c28) ?_
   refine aA rfl rfl ?_
   refine TL.op1 (OpR.pickT rfl (beq_iff_eq.2 c28) rfl) rfl ?_
   refine aA rfl rfl ?_
   rcases ite_some ht24 with ⟨c29, ht24⟩ | ⟨c29, ht24⟩
   rotate_left
   · refine TL.off rfl rfl rfl rfl (beq_eq_false_iff_ne.2 c29) rfl rfl ?_
     refine TL.off rfl rfl rfl rfl (beq_eq_false_iff_ne.2 c29) rfl rfl ?_
     refine TL.off rfl rfl rfl rfl (beq_eq_false_iff_ne.2 c29) rfl rfl ?_
     refine TL.off rfl rfl rfl rfl (beq_eq_false_iff_ne.2 c29) rfl rfl ?_
     refine TL.op1 (OpR.pickF rfl (beq_eq_false_iff_ne.2 c29) rfl) rfl ?_
     refine aA rfl rfl ?_
     refine TL.off rfl rfl rfl rfl rfl rfl rfl ?_
     refine TL.off rfl rfl rfl rfl rfl rfl rfl ?_
     refine TL.off rfl rfl rfl rfl rfl rfl rfl ?_
     refine TL.off rfl rfl rfl rfl rfl rfl rfl ?_
     refine TL.off rfl rfl rfl rfl rfl rfl rfl ?_
     refine TL.op1 (OpR.pickF rfl rfl rfl) rfl ?_
     refine aA rfl rfl ?_
     refine TL.nil ?_
     obtain rfl := osi ht24
     exact ⟨_, gP [0] [] rfl rfl rfl, rfl⟩
   refine TL.on rfl rfl rfl rfl (beq_iff_eq.2 c29) ?_
   refine TL.op1 (OpR.loadPtr 4 rfl rfl rfl rfl) rfl ?_
   refine TL.on rfl rfl rfl rfl (beq_iff_eq.2 c29) ?_
   obtain ⟨x30, hx30, ht24⟩ := bS ht24
   refine TL.op1 (OpR.call0 fn51 (grid_Grid_Visible_c hx30) rfl) rfl ?_
   refine TL.on rfl rfl rfl rfl (beq_iff_eq.2 c29) ?_
   refine TL.op1 (OpR.cast (OpR.pure rfl) (intE (lenM _ _))) rfl ?_
   refine TL.on rfl rfl rfl rfl (beq_iff_eq.2 c29) ?_
   refine aA rfl rfl ?_
   refine TL.op1 (OpR.pickT rfl (beq_iff_eq.2 c29) rfl) rfl ?_
   refine aA rfl rfl ?_
   rcases ite_some ht24 with ⟨c31, ht24⟩ | ⟨c31, ht24⟩
   rotate_left
   · refine TL.off rfl rfl rfl rfl (beq_eq_false_iff_ne.2 c31) rfl rfl ?_
     refine TL.off rfl rfl rfl rfl (beq_eq_false_iff_ne.2 c31) rfl rfl ?_
     refine TL.off rfl rfl rfl rfl (beq_eq_false_iff_ne.2 c31) rfl rfl ?_
     refine TL.off rfl rfl rfl rfl (beq_eq_false_iff_ne.2 c31) rfl rfl ?_
     refine TL.off rfl rfl rfl rfl (beq_eq_false_iff_ne.2 c31) rfl rfl ?_
     refine TL.op1 (OpR.pickF rfl (beq_eq_false_iff_ne.2 c31) rfl) rfl ?_
     refine aA rfl rfl ?_
     refine TL.nil ?_
     obtain rfl := osi ht24
     exact ⟨_, gP [0] [] rfl rfl rfl, rfl⟩
   refine TL.on rfl rfl rfl rfl (beq_iff_eq.2 c31) ?_
   refine TL.op1 (OpR.loadPtr 4 rfl rfl rfl rfl) rfl ?_
   refine TL.on rfl rfl rfl rfl (beq_iff_eq.2 c31) ?_
   obtain ⟨x32, hx32, ht24⟩ := bS ht24
   refine TL.op1 (OpR.call0 fn53 (filter_All_c hx32) rfl) rfl ?_
   refine TL.on rfl rfl rfl rfl (beq_iff_eq.2 c31) ?_
   obtain ⟨x33, hx33, ht24⟩ := bS ht24
   refine TL.op1 (OpR.call0 fn51 (grid_Grid_Visible_c hx33) rfl) rfl ?_
   refine TL.on rfl rfl rfl rfl (beq_iff_eq.2 c31) ?_
   refine TL.op1 (OpR.cast (OpR.pure rfl) (intE (lenM _ _))) rfl ?_
   refine TL.on rfl rfl rfl rfl (beq_iff_eq.2 c31) ?_
   refine aA rfl rfl ?_
   refine TL.op1 (OpR.pickT rfl (beq_iff_eq.2 c31) rfl) rfl ?_
   refine aA rfl rfl ?_
   refine TL.nil ?_
   obtain rfl := osi ht24
   exact ⟨_, gP [0] [] rfl rfl rfl, rfl⟩
 dsimp only at h0
 refine TL.op (OpR.call [] fn67 (grid_Load_cx1 hx6) rfl rfl rfl (fun _ => rfl)) rfl (fun w7 => ?_)
 iterate 4 refine aA rfl rfl ?_
 refine TL.op (OpR.alloc rfl rfl (fun _ => rfl)) rfl (fun p8 => ?_)
 refine TL.op0 (OpR.store 5 rfl rfl rfl rfl rfl rfl rfl rfl) ?_
 iterate 2 refine aA rfl rfl ?_
 refine aN rfl ?_
 refine aS ?_
 refine TL.op1 (OpR.loadPtr 5 rfl rfl rfl rfl) rfl ?_
 refine aA rfl rfl ?_
 refine TL.op1 (OpR.loadPtr 0 rfl rfl rfl rfl) rfl ?_
 refine TL.op1 (OpR.lit rfl rfl rfl rfl rfl rfl rfl) rfl ?_
 obtain ⟨x9, hx9, h0⟩ := bS h0
 refine TL.op1 (OpR.call [3, 4] fn47 (filter_Show_c hx9) rfl rfl rfl (fun _ => rfl)) rfl ?_
 iterate 3 refine aA rfl rfl ?_
 refine TL.op (OpR.alloc rfl rfl (fun _ => rfl)) rfl (fun p10 => ?_)
 refine TL.op0 (OpR.store 6 rfl rfl rfl rfl rfl rfl rfl rfl) ?_
 refine aA rfl rfl ?_
 refine aN rfl ?_
 refine T.seq ?_
 obtain ⟨t11, ht11, h0⟩ := bS h0
 refine T.cutC (fun S' => S' = ⟨[(0, (dT t11))], [], 66⟩) (fun _ h => h) ?_ ?_
 rotate_left
 · rintro _ rfl
   show T X _ _ _
   refine T.ret ?_
   obtain rfl := osi h0
   exact rO [] [0] rfl undef (cT rfl ResL.nil) rfl rfl rfl rfl
 refine T.region ?_
 iterate 3 refine aA rfl rfl ?_
 rcases ite_some ht11 with ⟨c12, ht11⟩ | ⟨c12, ht11⟩
 rotate_left
 · refine TL.off rfl rfl rfl rfl (beq_eq_false_iff_ne.2 c12) rfl rfl ?_
   refine TL.off rfl rfl rfl rfl (beq_eq_false_iff_ne.2 c12) rfl rfl ?_
   refine TL.off rfl rfl rfl rfl (beq_eq_false_iff_ne.2 c12) rfl rfl ?_
   refine TL.op1 (OpR.pickF rfl (beq_eq_false_iff_ne.2 c12) rfl) rfl ?_
   refine aA rfl rfl ?_
   refine TL.off rfl rfl rfl rfl rfl rfl rfl ?_
   refine TL.off rfl rfl rfl rfl rfl rfl rfl ?_
   refine TL.op1 (OpR.pickF rfl rfl rfl) rfl ?_
   refine aA rfl rfl ?_
   refine TL.off rfl rfl rfl rfl rfl rfl rfl ?_
   refine TL.off rfl rfl rfl rfl rfl rfl rfl ?_
   refine TL.off rfl rfl rfl rfl rfl rfl rfl ?_
   refine TL.op1 (OpR.pickF rfl rfl rfl) rfl ?_
   refine aA rfl rfl ?_
   refine TL.off rfl rfl rfl rfl rfl rfl rfl ?_
   refine TL.off rfl rfl rfl rfl rfl rfl rfl ?_
   refine TL.op1 (OpR.pickF rfl rfl rfl) rfl ?_
   refine aA rfl rfl ?_
   refine TL.off rfl rfl rfl rfl rfl rfl rfl ?_
   refine TL.off rfl rfl rfl rfl rfl rfl rfl ?_
   refine TL.off rfl rfl rfl rfl rfl rfl rfl ?_
   refine TL.off rfl rfl rfl rfl rfl rfl rfl ?_
   refine TL.op1 (OpR.pickF rfl rfl rfl) rfl ?_
   refine aA rfl rfl ?_
   refine TL.off rfl rfl rfl rfl rfl rfl rfl ?_
   refine TL.off rfl rfl rfl rfl rfl rfl rfl ?_
   refine TL.off rfl rfl rfl rfl rfl rfl rfl ?_
   refine TL.off rfl rfl rfl rfl rfl rfl rfl ?_
   refine TL.off rfl rfl rfl rfl rfl rfl rfl ?_
   refine TL.op1 (OpR.pickF rfl rfl rfl) rfl ?_
   refine aA rfl rfl ?_
   refine TL.nil ?_
   obtain rfl := osi ht11
   exact ⟨_, gP [0] [] rfl rfl rfl, rfl⟩
 refine TL.on rfl rfl rfl rfl (beq_iff_eq.2 c12) ?_
 refine TL.op1 (OpR.loadPtr 0 rfl rfl rfl rfl) rfl ?_
 refine TL.on rfl rfl rfl rfl (beq_iff_eq.2 c12) ?_
 refine TL.op1 (OpR.build rfl rfl rfl rfl rfl) rfl ?_
 refine TL.on rfl rfl rfl rfl (beq_iff_eq.2 c12) ?_
 refine TL.op1 (OpR.cast (OpR.eqStruct rfl rfl rfl rfl rfl (by kernel_rfl) (by kernel_rfl)) (boolE (beq_filter_Test x1.1 (⟨1, 2, [49, 48], false⟩ : filter_Test)))) rfl ?_
 refine TL.op1 (OpR.pickT rfl (beq_iff_eq.2 c12) rfl) rfl ?_
 refine aA rfl rfl ?_
 rcases ite_some ht11 with ⟨c13, ht11⟩ | ⟨c13, ht11⟩
 rotate_left
 · refine TL.off rfl rfl rfl rfl (beq_eq_false_iff_ne.2 c13) rfl rfl ?_
   refine TL.off rfl rfl rfl rfl (beq_eq_false_iff_ne.2 c13) rfl rfl ?_
   refine TL.op1 (OpR.pickF rfl (beq_eq_false_iff_ne.2 c13) rfl) rfl ?_
   refine aA rfl rfl ?_
   refine TL.off rfl rfl rfl rfl rfl rfl rfl ?_
   refine TL.off rfl rfl rfl rfl rfl rfl rfl ?_
   refine TL.off rfl rfl rfl rfl rfl rfl rfl ?_
   refine TL.op1 (OpR.pickF rfl rfl rfl) rfl ?_
   refine aA rfl rfl ?_
   refine TL.off rfl rfl rfl rfl rfl rfl rfl ?_
   refine TL.off rfl rfl rfl rfl rfl rfl rfl ?_
   refine TL.op1 (OpR.pickF rfl rfl rfl) rfl ?_
   refine aA rfl rfl ?_
   refine TL.off rfl rfl rfl rfl rfl rfl rfl ?_
   refine TL.off rfl rfl rfl rfl rfl rfl rfl ?_
   refine TL.off rfl rfl rfl rfl rfl rfl rfl ?_
   refine TL.off rfl rfl rfl rfl rfl rfl rfl ?_
   refine TL.op1 (OpR.pickF rfl rfl rfl) rfl ?_
   refine aA rfl rfl ?_
   refine TL.off rfl rfl rfl rfl rfl rfl rfl ?_
   refine TL.off rfl rfl rfl rfl rfl rfl rfl ?_
   refine TL.off rfl rfl rfl rfl rfl rfl rfl ?_
   refine TL.off rfl rfl rfl rfl rfl rfl rfl ?_
   refine TL.off rfl rfl rfl rfl rfl rfl rfl ?_
   refine TL.op1 (OpR.pickF rfl rfl rfl) rfl ?_
   refine aA rfl rfl ?_
   refine TL.nil ?_
   obtain rfl := osi ht11
   exact ⟨_, gP [0] [] rfl rfl rfl, rfl⟩
 refine TL.on rfl rfl rfl rfl (beq_iff_eq.2 c13) ?_
 refine aA rfl rfl ?_
 refine TL.on rfl rfl rfl rfl (beq_iff_eq.2 c13) ?_
 refine aA rfl rfl ?_
 refine TL.op1 (OpR.pickT rfl (beq_iff_eq.2 c13) rfl) rfl ?_
 refine aA rfl rfl ?_
 rcases ite_some ht11 with ⟨c14, ht11⟩ | ⟨c14, ht11⟩
 rotate_left
 · refine TL.off rfl rfl rfl rfl (beq_eq_false_iff_ne.2 c14) rfl rfl ?_
   refine TL.off rfl rfl rfl rfl (beq_eq_false_iff_ne.2 c14) rfl rfl ?_
   refine TL.off rfl rfl rfl rfl (beq_eq_false_iff_ne.2 c14) rfl rfl ?_
   refine TL.op1 (OpR.pickF rfl (beq_eq_false_iff_ne.2 c14) rfl) rfl ?_
   refine aA rfl rfl ?_
   refine TL.off rfl rfl rfl rfl rfl rfl rfl ?_
   refine TL.off rfl rfl rfl rfl rfl rfl rfl ?_
   refine TL.op1 (OpR.pickF rfl rfl rfl) rfl ?_
   refine aA rfl rfl ?_
   refine TL.off rfl rfl rfl rfl rfl rfl rfl ?_
   refine TL.off rfl rfl rfl rfl rfl rfl rfl ?_
   refine TL.off rfl rfl rfl rfl rfl rfl rfl ?_
   refine TL.off rfl rfl rfl rfl rfl rfl rfl ?_
   refine TL.op1 (OpR.pickF rfl rfl rfl) rfl ?_
   refine aA rfl rfl ?_
   refine TL.off rfl rfl rfl rfl rfl rfl rfl ?_
   refine TL.off rfl rfl rfl rfl rfl rfl rfl ?_
   refine TL.off rfl rfl rfl rfl rfl rfl rfl ?_
   refine TL.off rfl rfl rfl rfl rfl rfl rfl ?_
   refine TL.off rfl rfl rfl rfl rfl rfl rfl ?_
   refine TL.op1 (OpR.pickF rfl rfl rfl) rfl ?_
   refine aA rfl rfl ?_
   refine TL.nil ?_
   obtain rfl := osi ht11
   exact ⟨_, gP [0] [] rfl rfl rfl, rfl⟩
 refine TL.on rfl rfl rfl rfl (beq_iff_eq.2 c14) ?_
 refine TL.op1 (OpR.loadPtr 1 rfl rfl rfl rfl) rfl ?_
 refine TL.on rfl rfl rfl rfl (beq_iff_eq.2 c14) ?_
 refine TL.op1 (OpR.build rfl rfl rfl rfl rfl) rfl ?_
 refine TL.on rfl rfl rfl rfl (beq_iff_eq.2 c14) ?_
 refine TL.op1 (OpR.cast (OpR.eqStruct rfl rfl rfl rfl rfl (by kernel_rfl) (by kernel_rfl)) (boolE (beq_filter_Test x3.1 (⟨0, 6, [], true⟩ : filter_Test)))) rfl ?_
 refine TL.op1 (OpR.pickT rfl (beq_iff_eq.2 c14) rfl) rfl ?_
 refine aA rfl rfl ?_
 rcases ite_some ht11 with ⟨c15, ht11⟩ | ⟨c15, ht11⟩
 rotate_left
 · refine TL.off rfl rfl rfl rfl (beq_eq_false_iff_ne.2 c15) rfl rfl ?_
   refine TL.off rfl rfl rfl rfl (beq_eq_false_iff_ne.2 c15) rfl rfl ?_
   refine TL.op1 (OpR.pickF rfl (beq_eq_false_iff_ne.2 c15) rfl) rfl ?_
   refine aA rfl rfl ?_
   refine TL.off rfl rfl rfl rfl rfl rfl rfl ?_
   refine TL.off rfl rfl rfl rfl rfl rfl rfl ?_
   refine TL.off rfl rfl rfl rfl rfl rfl rfl ?_
   refine TL.off rfl rfl rfl rfl rfl rfl rfl ?_
   refine TL.op1 (OpR.pickF rfl rfl rfl) rfl ?_
   refine aA rfl rfl ?_
   refine TL.off rfl rfl rfl rfl rfl rfl rfl ?_
   refine TL.off rfl rfl rfl rfl rfl rfl rfl ?_
   refine TL.off rfl rfl rfl rfl rfl rfl rfl ?_
   refine TL.off rfl rfl rfl rfl rfl rfl rfl ?_
   refine TL.off rfl rfl rfl rfl rfl rfl rfl ?_
   refine TL.op1 (OpR.pickF rfl rfl rfl) rfl ?_
   refine aA rfl rfl ?_
   refine TL.nil ?_
   obtain rfl := osi ht11
   exact ⟨_, gP [0] [] rfl rfl rfl, rfl⟩
 refine TL.on rfl rfl rfl rfl (beq_iff_eq.2 c15) ?_
 refine aA rfl rfl ?_
 refine TL.on rfl rfl rfl rfl (beq_iff_eq.2 c15) ?_
 refine aA rfl rfl ?_
 refine TL.op1 (OpR.pickT rfl (beq_iff_eq.2 c15) rfl) rfl ?_
 refine aA rfl rfl ?_
 rcases ite_some ht11 with ⟨c16, ht11⟩ | ⟨c16, ht11⟩
 rotate_left
 · refine TL.off rfl rfl rfl rfl (beq_eq_false_iff_ne.2 c16) rfl rfl ?_
   refine TL.off rfl rfl rfl rfl (beq_eq_false_iff_ne.2 c16) rfl rfl ?_
   refine TL.off rfl rfl rfl rfl (beq_eq_false_iff_ne.2 c16) rfl rfl ?_
   refine TL.off rfl rfl rfl rfl (beq_eq_false_iff_ne.2 c16) rfl rfl ?_
   refine TL.op1 (OpR.pickF rfl (beq_eq_false_iff_ne.2 c16) rfl) rfl ?_
   refine aA rfl rfl ?_
   refine TL.off rfl rfl rfl rfl rfl rfl rfl ?_
   refine TL.off rfl rfl rfl rfl rfl rfl rfl ?_
   refine TL.off rfl rfl rfl rfl rfl rfl rfl ?_
   refine TL.off rfl rfl rfl rfl rfl rfl rfl ?_
   refine TL.off rfl rfl rfl rfl rfl rfl rfl ?_
   refine TL.op1 (OpR.pickF rfl rfl rfl) rfl ?_
   refine aA rfl rfl ?_
   refine TL.nil ?_
   obtain rfl := osi ht11
   exact ⟨_, gP [0] [] rfl rfl rfl, rfl⟩
 refine TL.on rfl rfl rfl rfl (beq_iff_eq.2 c16) ?_
 refine TL.op1 (OpR.loadPtr 6 rfl rfl rfl rfl) rfl ?_
 refine TL.on rfl rfl rfl rfl (beq_iff_eq.2 c16) ?_
 obtain ⟨x17, hx17, ht11⟩ := bS ht11
 refine TL.op1 (OpR.call0 fn51 (grid_Grid_Visible_c hx17) rfl) rfl ?_
 refine TL.on rfl rfl rfl rfl (beq_iff_eq.2 c16) ?_
 refine TL.op1 (OpR.cast (OpR.pure rfl) (intE (lenM _ _))) rfl ?_
 refine TL.on rfl rfl rfl rfl (beq_iff_eq.2 c16) ?_
 refine aA rfl rfl ?_
 refine TL.op1 (OpR.pickT rfl (beq_iff_eq.2 c16) rfl) rfl ?_
 refine aA rfl rfl ?_
 rcases ite_some ht11 with ⟨c18, ht11⟩ | ⟨c18, ht11⟩
 rotate_left
 · refine TL.off rfl rfl rfl rfl (beq_eq_false_iff_ne.2 c18) rfl rfl ?_
   refine TL.off rfl rfl rfl rfl (beq_eq_false_iff_ne.2 c18) rfl rfl ?_
   refine TL.off rfl rfl rfl rfl (beq_eq_false_iff_ne.2 c18) rfl rfl ?_
   refine TL.off rfl rfl rfl rfl (beq_eq_false_iff_ne.2 c18) rfl rfl ?_
   refine TL.off rfl rfl rfl rfl (beq_eq_false_iff_ne.2 c18) rfl rfl ?_
   refine TL.op1 (OpR.pickF rfl (beq_eq_false_iff_ne.2 c18) rfl) rfl ?_
   refine aA rfl rfl ?_
   refine TL.nil ?_
   obtain rfl := osi ht11
   exact ⟨_, gP [0] [] rfl rfl rfl, rfl⟩
 refine TL.on rfl rfl rfl rfl (beq_iff_eq.2 c18) ?_
 refine TL.op1 (OpR.loadPtr 6 rfl rfl rfl rfl) rfl ?_
 refine TL.on rfl rfl rfl rfl (beq_iff_eq.2 c18) ?_
 obtain ⟨x19, hx19, ht11⟩ := bS ht11
 refine TL.op1 (OpR.call0 fn53 (filter_All_c hx19) rfl) rfl ?_
 refine TL.on rfl rfl rfl rfl (beq_iff_eq.2 c18) ?_
 obtain ⟨x20, hx20, ht11⟩ := bS ht11
 refine TL.op1 (OpR.call0 fn51 (grid_Grid_Visible_c hx20) rfl) rfl ?_
 refine TL.on rfl rfl rfl rfl (beq_iff_eq.2 c18) ?_
 refine TL.op1 (OpR.cast (OpR.pure rfl) (intE (lenM _ _))) rfl ?_
 refine TL.on rfl rfl rfl rfl (beq_iff_eq.2 c18) ?_
 refine aA rfl rfl ?_
 refine TL.op1 (OpR.pickT rfl (beq_iff_eq.2 c18) rfl) rfl ?_
 refine aA rfl rfl ?_
 refine TL.nil ?_
 obtain rfl := osi ht11
 exact ⟨_, gP [0] [] rfl rfl rfl, rfl⟩
theorem filter_wrong_c_2 {a0 : List filter_Test} {v0 : Value} {res : Bool} (h0 : filter_wrong a0 = some res) : CallF X 115 [.val v0] [.row v0 (List.map e_filter_Test a0) 4 65] (fun x => (dT res)) (fun x => [.row v0 (List.map e_filter_Test a0) 4 65]) := by
 unfold filter_wrong at h0
 refine CallF.mkG (X := X) rfl Tryz.func115 rfl rfl Tryz.ntmps115 rfl rfl ?_
 refine aS ?_
 refine aA rfl rfl ?_
 refine aN rfl ?_
 refine T.seq ?_
 refine aS ?_
 refine aA rfl rfl ?_
 refine TL.op1 (OpR.rowLenM e_filter_Test 0 rfl rfl rfl rfl) rfl ?_
 refine aA rfl rfl ?_
 refine aN rfl ?_
 obtain ⟨t1, ht1, h0⟩ := bS h0
 refine T.cutC (fun S' => ∃ u2, t1 = Ex.brk u2 ∧ S' = ⟨[(2, (dT false))], [.row v0 (List.map e_filter_Test a0) 4 65], 15⟩) (fun _ h => h) ?_ ?_
 rotate_left
 · rintro _ ⟨u2, rfl, rfl⟩
   show T X _ _ _
   refine aS ?_
   refine aA rfl rfl ?_
   refine aN rfl ?_
   refine T.ret ?_
   obtain rfl := osi h0
   exact rO [0] [2] rfl undef (cT rfl ResL.nil) rfl rfl rfl rfl
 refine T.block ?_
 obtain ⟨n4, n9⟩ := loop_some ht1
 refine T.loop (fun n S' => ∃ S'', Gst S' S'' ∧ ∃ s3 : Int, S'' = ⟨[(7, (dN s3)), (6, (dN (a0.length : Int))), (5, .val v0), (2, (dT false))], [.row v0 (List.map e_filter_Test a0) 4 65], 15⟩ ∧ iter (filter_wrong.l1 a0) n s3 = some t1) n4 ?_ ?_
 · exact ⟨_, Gst.only [2, 5, 6, 7] rfl, 0, rfl, n9⟩
 rintro n4 _ ⟨_, g, s3, rfl, i8⟩
 refine T.ghost g ?_
 obtain ⟨m5, q6, rfl, q7, i8⟩ := iter_succ i8
 unfold filter_wrong.l1 at q7
 refine aS ?_
 refine aA rfl rfl ?_
 refine aN rfl ?_
 refine T.seq ?_
 rcases ite_some q7 with ⟨c11, q7⟩ | ⟨c11, q7⟩
 rotate_left
 · refine T.condF rfl (eF c11) ?_
   refine T.exit ?_
   obtain rfl := osi q7
   obtain rfl : _ = _ := i8
   exact ⟨_, Gst.only [2] rfl, _, rfl, rfl⟩
 refine T.condT rfl (eT c11) ?_
 refine aK rfl ?_
 refine T.seq ?_
 refine T.block ?_
 refine aS ?_
 obtain ⟨x12, hx12, q7⟩ := bS q7
 refine TL.op1 (OpR.rowIndexM e_filter_Test 0 hx12 rfl rfl rfl rfl rfl rfl rfl) rfl ?_
 refine TL.op1 (OpR.rowLoad0M (j := s3) e_filter_Test 0 hx12 rfl rfl rfl rfl) rfl ?_
 refine TL.op (OpR.alloc rfl rfl (fun _ => rfl)) rfl (fun p13 => ?_)
 refine TL.op0 (OpR.store 1 rfl rfl rfl rfl rfl rfl rfl rfl) ?_
 refine aN rfl ?_
 refine aS ?_
 refine TL.op1 (OpR.loadPtr 1 rfl rfl rfl rfl) rfl ?_
 obtain ⟨x14, hx14, q7⟩ := bS q7
 refine TL.op1 (OpR.call0 fn33 (filter_Right_c hx14) rfl) rfl ?_
 refine aA rfl rfl ?_
 refine aN rfl ?_
 rcases ite_some q7 with ⟨c15, q7⟩ | ⟨c15, q7⟩
 · refine T.condF rfl (not_t (c15)) ?_
   refine aK rfl ?_
   refine T.region ?_
   iterate 2 refine aA rfl rfl ?_
   refine TL.nil ?_
   obtain rfl := osi q7
   exact ⟨m5, Nat.lt_succ_self _, _, gP [2, 5, 6, 7] [0] rfl rfl rfl, w64 (s3 + 1), rfl, i8⟩
 refine T.condT rfl (not_f (eq_false_of_ne_true c15)) ?_
 refine aS ?_
 refine aA rfl rfl ?_
 refine aN rfl ?_
 refine T.ret ?_
 obtain rfl := osi q7
 obtain rfl : _ = _ := i8
 obtain rfl := osi h0
 exact rP [0] [2] [0] rfl rfl rfl undef (cT rfl ResL.nil) rfl rfl rfl rfl
theorem filter_all_c_2 {a0 : row_Row} {a1 : List filter_Test} {a2 : List UInt8} {b0 : Nat} {v1 : Value} {v2 : Value} {res : Bool} (h0 : filter_all a0 a1 a2 = some res) : CallF X 118 [.agg [.sl 5 (List.map e_cell_Cell a0.fCells), dN a0.fEnd, dT a0.fHidden], dP b0, .val v1] [.var b0 [.val v2] 264, .row v1 (List.map e_filter_Test a1) 4 65, .row v2 (lB a2) 1 5] (fun x => (dT res)) (fun x => [.var b0 [.val v2] 264, .row v1 (List.map e_filter_Test a1) 4 65, .row v2 (lB a2) 1 5]) := by
 unfold filter_all at h0
 refine CallF.mkG (X := X) rfl Tryz.func118 rfl rfl Tryz.ntmps118 rfl rfl ?_
 refine aS ?_
 refine TL.op1 (OpR.boxImm rfl rfl) rfl ?_
 refine aA rfl rfl ?_
 refine aN rfl ?_
 refine T.seq ?_
 refine aS ?_
 refine aA rfl rfl ?_
 refine TL.op1 (OpR.rowLenM e_filter_Test 1 rfl rfl rfl rfl) rfl ?_
 refine aA rfl rfl ?_
 refine aN rfl ?_
 obtain ⟨t1, ht1, h0⟩ := bS h0
 refine T.cutC (fun S' => ∃ u2, t1 = Ex.brk u2 ∧ S' = ⟨[(6, (dT false))], [.var b0 [.val v2] 264, .row v1 (List.map e_filter_Test a1) 4 65, .row v2 (lB a2) 1 5], 21⟩) (fun _ h => h) ?_ ?_
 rotate_left
 · rintro _ ⟨u2, rfl, rfl⟩
   show T X _ _ _
   refine aS ?_
   refine aA rfl rfl ?_
   refine aN rfl ?_
   refine T.ret ?_
   obtain rfl := osi h0
   exact rO [0, 1, 2] [6] rfl undef (cT rfl ResL.nil) rfl rfl rfl rfl
 refine T.block ?_
 obtain ⟨n4, n9⟩ := loop_some ht1
 refine T.loop (fun n S' => ∃ S'', Gst S' S'' ∧ ∃ s3 : Int, S'' = ⟨[(11, (dN s3)), (10, (dN (a1.length : Int))), (9, .val v1), (6, (dT false)), (3, .nod [.sl 5 (List.map e_cell_Cell a0.fCells), dN a0.fEnd, dT a0.fHidden]), (1, (dP b0))], [.var b0 [.val v2] 264, .row v1 (List.map e_filter_Test a1) 4 65, .row v2 (lB a2) 1 5], 21⟩ ∧ iter (filter_all.l1 a0 a1 a2) n s3 = some t1) n4 ?_ ?_
 · exact ⟨_, Gst.only [1, 3, 6, 9, 10, 11] rfl, 0, rfl, n9⟩
 rintro n4 _ ⟨_, g, s3, rfl, i8⟩
 refine T.ghost g ?_
 obtain ⟨m5, q6, rfl, q7, i8⟩ := iter_succ i8
 unfold filter_all.l1 at q7
 refine aS ?_
 refine aA rfl rfl ?_
 refine aN rfl ?_
 refine T.seq ?_
 rcases ite_some q7 with ⟨c11, q7⟩ | ⟨c11, q7⟩
 rotate_left
 · refine T.condF rfl (eF c11) ?_
   refine T.exit ?_
   obtain rfl := osi q7
   obtain rfl : _ = _ := i8
   exact ⟨_, Gst.only [6] rfl, _, rfl, rfl⟩
 refine T.condT rfl (eT c11) ?_
 refine aK rfl ?_
 refine T.seq ?_
 refine T.block ?_
 refine aS ?_
 obtain ⟨x12, hx12, q7⟩ := bS q7
 refine TL.op1 (OpR.rowIndexM e_filter_Test 1 hx12 rfl rfl rfl rfl rfl rfl rfl) rfl ?_
 refine TL.op1 (OpR.rowLoad0M (j := s3) e_filter_Test 1 hx12 rfl rfl rfl rfl) rfl ?_
 refine TL.op (OpR.alloc rfl rfl (fun _ => rfl)) rfl (fun p13 => ?_)
 refine TL.op0 (OpR.store 3 rfl rfl rfl rfl rfl rfl rfl rfl) ?_
 refine aN rfl ?_
 refine aS ?_
 iterate 2 refine aA rfl rfl ?_
 refine TL.op1 (OpR.loadPtr 3 rfl rfl rfl rfl) rfl ?_
 obtain ⟨x14, hx14, q7⟩ := bS q7
 refine TL.op1 (OpR.call [0, 2] fn44 (filter_Holds_c hx14) rfl rfl rfl (fun _ => rfl)) rfl ?_
 refine aA rfl rfl ?_
 refine aN rfl ?_
 rcases ite_some q7 with ⟨c15, q7⟩ | ⟨c15, q7⟩
 · refine T.condF rfl (not_t (c15)) ?_
   refine aK rfl ?_
   refine T.region ?_
   iterate 2 refine aA rfl rfl ?_
   refine TL.nil ?_
   obtain rfl := osi q7
   exact ⟨m5, Nat.lt_succ_self _, _, gP [1, 3, 6, 9, 10, 11] [0, 1, 2] rfl rfl rfl, w64 (s3 + 1), rfl, i8⟩
 refine T.condT rfl (not_f (eq_false_of_ne_true c15)) ?_
 refine aS ?_
 refine aA rfl rfl ?_
 refine aN rfl ?_
 refine T.ret ?_
 obtain rfl := osi q7
 obtain rfl : _ = _ := i8
 obtain rfl := osi h0
 exact rP [0, 1, 2] [6] [0, 1, 2] rfl rfl rfl undef (cT rfl ResL.nil) rfl rfl rfl rfl
theorem filter_Show_1_c_2 {a0 : row_Row} {a1 : List filter_Test} {a2 : List UInt8} {b0 : Nat} {b1 : Nat} {b2 : Nat} {v3 : Value} {v4 : Value} {res : Bool} (h0 : filter_Show_1 a0 a1 a2 = some res) : CallF X 117 [.agg [.sl 5 (List.map e_cell_Cell a0.fCells), dN a0.fEnd, dT a0.fHidden], dP b0, dP b1] [.var b0 [dP b2] 28, .var b1 [.val v3] 88, .var b2 [.val v4] 264, .row v3 (List.map e_filter_Test a1) 4 65, .row v4 (lB a2) 1 5] (fun x => (dT res)) (fun x => [.var b0 [dP b2] 28, .var b1 [.val v3] 88, .var b2 [.val v4] 264, .row v3 (List.map e_filter_Test a1) 4 65, .row v4 (lB a2) 1 5]) := by
 unfold filter_Show_1 at h0
 refine CallF.mkG (X := X) rfl Tryz.func117 rfl rfl Tryz.ntmps117 rfl rfl ?_
 refine aS ?_
 refine TL.op1 (OpR.boxImm rfl rfl) rfl ?_
 refine aA rfl rfl ?_
 refine aN rfl ?_
 refine aS ?_
 refine aA rfl rfl ?_
 refine TL.op1 (OpR.loadPtr 0 rfl rfl rfl rfl) rfl ?_
 refine TL.op1 (OpR.loadPtr 1 rfl rfl rfl rfl) rfl ?_
 obtain ⟨x1, hx1, h0⟩ := bS h0
 refine TL.op1 (OpR.call [2, 3, 4] fn118 (filter_all_c_2 hx1) rfl rfl rfl (fun _ => rfl)) rfl ?_
 iterate 2 refine aA rfl rfl ?_
 refine aN rfl ?_
 refine T.ret ?_
 obtain rfl := osi h0
 exact rO [0, 1, 2, 3, 4] [4] rfl undef (cT rfl ResL.nil) rfl rfl rfl rfl
theorem filter_hide_1_c_2 {a0 : Int} {a1 : row_Row} {a2 : List filter_Test} {a3 : List UInt8} {b0 : Nat} {b1 : Nat} {b2 : Nat} {b3 : Nat} {v4 : Value} {v5 : Value} {res : row_Row} (h0 : filter_hide_1 a0 a1 a2 a3 = some res) : CallF X 185 [dN a0, .agg [.sl 5 (List.map e_cell_Cell a1.fCells), dN a1.fEnd, dT a1.fHidden], dP b0] [.var b0 [.fn (.func 117) [] [dP b1, dP b2]] 130, .var b1 [dP b3] 28, .var b2 [.val v4] 88, .var b3 [.val v5] 264, .row v4 (List.map e_filter_Test a2) 4 65, .row v5 (lB a3) 1 5] (fun x => .agg [.sl 5 (List.map e_cell_Cell res.fCells), dN res.fEnd, dT res.fHidden]) (fun x => [.var b0 [.fn (.func 117) [] [dP b1, dP b2]] 130, .var b1 [dP b3] 28, .var b2 [.val v4] 88, .var b3 [.val v5] 264, .row v4 (List.map e_filter_Test a2) 4 65, .row v5 (lB a3) 1 5]) := by
 unfold filter_hide_1 at h0
 refine CallF.mkG (X := X) rfl Tryz.func185 rfl rfl Tryz.ntmps185 rfl rfl ?_
 refine aS ?_
 refine TL.op1 (OpR.boxImm rfl rfl) rfl ?_
 refine TL.op (OpR.alloc rfl rfl (fun _ => rfl)) rfl (fun p1 => ?_)
 refine aN rfl ?_
 refine T.seq ?_
 obtain ⟨x3, hx3, h0⟩ := bS h0
 obtain ⟨x4, hx4, h0⟩ := bS h0
 refine T.drawS drawsX (fun env2 => [.agg [.sl 5 (List.map e_cell_Cell a1.fCells), dN a1.fEnd, dT a1.fHidden], .fn (.func 117) [] [dP b1, dP b2], .agg [.sl 5 (List.map e_cell_Cell a1.fCells), dN a1.fEnd, dT a1.fHidden], dT x3, .agg [.sl 5 (List.map e_cell_Cell x4.fCells), dN x4.fEnd, dT x4.fHidden], .dead]) (fun D env2 => [.var b0 [.fn (.func 117) [] [dP b1, dP b2]] 130, .var b1 [dP b3] 28, .var b2 [.val v4] 88, .var b3 [.val v5] 264, .row v4 (List.map e_filter_Test a2) 4 65, .row v5 (lB a3) 1 5, (bif D 5 then .var (blk p1) [.sl 5 (List.map e_cell_Cell x4.fCells), dN x4.fEnd, dT x4.fHidden] 49 else .var (blk p1) [.val (.slice none 0 0), dN 0, dT false] 49)]) [0, 0, 0, 6, 15, 31] [5] _ (by decide +kernel) (by decide +kernel) (fun _ => rfl) (fun _ => rfl) ?_ (fun _ => rfl) (fun _ => rfl) ?_
 rotate_left
 · intro env2
   show T X _ _ _
   refine T.ret ?_
   obtain rfl := osi h0
   exact rO [0, 1, 2, 3, 4, 5] [5] rfl undef (cV 6 rfl rfl rfl rfl ResL.nil) rfl rfl rfl rfl
 refine aC ?_
 refine oT (.fn (.func 117) [] [dP b1, dP b2]) (fun _ _ => OpR.loadPtr 0 rfl rfl rfl rfl) ?_
 refine aC ?_
 refine OpsS.cons' true ?_ (fun _ _ _ _ _ _ _ => rfl) ?_
 · intro D env2 hA
   have e5 : D 5 = false := hA.no 5 _ rfl rfl
   exact OpS.yp [(5, false)] ⟨e5, trivial⟩ (Want.plain rfl) (OpR.callV [1, 2, 3, 4, 5] rfl fn117 (filter_Show_1_c_2 hx3) rfl rfl rfl (fun _ => rfl)) (fun x => rfl) (fun x => rfl)
 refine oT (.agg [.sl 5 (List.map e_cell_Cell x4.fCells), dN x4.fEnd, dT x4.fHidden]) (fun _ _ => OpR.call0 fn121 (row_Row_Hide_c hx4) rfl) ?_
 refine OpsS.cons' true ?_ (fun _ _ _ _ _ _ _ => rfl) ?_
 · intro D env2 hA
   exact OpS.yp [(5, false)] ⟨hA.me, trivial⟩ (Want.plain rfl) (OpR.store 6 rfl rfl rfl rfl rfl rfl rfl rfl) (fun x => rfl) (fun x => rfl)
 exact trivial
theorem walk_Map_row_Row_c_2 {a0 : tTr} {a1 : List filter_Test} {a2 : List UInt8} {b0 : Nat} {b1 : Nat} {b2 : Nat} {b3 : Nat} {v4 : Value} {v5 : Value} {res : tTr} (h0 : walk_Map_row_Row a0 a1 a2 = some res) : CallF X 137 [.agg [(eOP a0.fRoot)], .fn (.func 185) [] [dP b0]] [.var b0 [.fn (.func 117) [] [dP b1, dP b2]] 130, .var b1 [dP b3] 28, .var b2 [.val v4] 88, .var b3 [.val v5] 264, .row v4 (List.map e_filter_Test a1) 4 65, .row v5 (lB a2) 1 5] (fun x => .agg [(eOP res.fRoot)]) (fun x => [.var b0 [.fn (.func 117) [] [dP b1, dP b2]] 130, .var b1 [dP b3] 28, .var b2 [.val v4] 88, .var b3 [.val v5] 264, .row v4 (List.map e_filter_Test a1) 4 65, .row v5 (lB a2) 1 5]) := by
 unfold walk_Map_row_Row at h0
 refine CallF.mkG (X := X) rfl Tryz.func137 rfl rfl Tryz.ntmps137 rfl rfl ?_
 refine aS ?_
 refine TL.op1 (OpR.boxImm rfl rfl) rfl ?_
 refine TL.op (OpR.alloc rfl rfl (fun _ => rfl)) rfl (fun p1 => ?_)
 refine aN rfl ?_
 refine aS ?_
 refine aA rfl rfl ?_
 obtain ⟨x2, hx2, h0⟩ := bS h0
 refine TL.op1 (OpR.call0 fn100 (walk_All_row_Row_c hx2) rfl) rfl ?_
 obtain ⟨x3, hx3, h0⟩ := bS h0
 refine TL.op (OpR.call [] fn191 (slices_Clone_row_Row_row_Row_c hx3) rfl rfl rfl (fun _ => rfl)) rfl (fun w4 => ?_)
 refine aA rfl rfl ?_
 refine aN rfl ?_
 refine T.seq ?_
 refine aS ?_
 refine aA rfl rfl ?_
 refine TL.op1 (OpR.rowLenM e_row_Row 7 rfl rfl rfl rfl) rfl ?_
 refine aA rfl rfl ?_
 refine aN rfl ?_
 obtain ⟨t5, ht5, h0⟩ := bS h0
 refine T.cutC (fun S' => S' = ⟨[(5, .val (vn w4 0)), (4, (dP (blk p1)))], [.var b0 [.fn (.func 117) [] [dP b1, dP b2]] 130, .var b1 [dP b3] 28, .var b2 [.val v4] 88, .var b3 [.val v5] 264, .row v4 (List.map e_filter_Test a1) 4 65, .row v5 (lB a2) 1 5, .var (blk p1) [(eOP none)] 25, .row (vn w4 0) (List.map e_row_Row t5) 3 49], 28⟩) (fun _ h => h) ?_ ?_
 rotate_left
 · rintro _ rfl
   show T X _ _ _
   refine aS ?_
   refine aA rfl rfl ?_
   refine TL.ghost (Gst.freezeRow 7 rfl rfl (ReS.cons (Re.base .all) (ReS.refl _)) (ReO.same (ReO.same (ReO.same (ReO.same (ReO.same (ReO.same (ReO.same (ReO.same ReO.nil))))))))) ?_
   obtain ⟨x18, hx18, h0⟩ := bS h0
   refine TL.op1 (OpR.call0 fn101 (tree_Of_row_Row_c hx18) rfl) rfl ?_
   refine TL.op0 (OpR.store 6 rfl rfl rfl rfl rfl rfl rfl rfl) ?_
   refine aN rfl ?_
   refine T.ret ?_
   obtain rfl := osi h0
   exact rP [0, 1, 2, 3, 4, 5] [4] [0, 1, 2, 3, 4, 5, 6] rfl rfl rfl undef (cV 6 rfl rfl rfl rfl ResL.nil) rfl rfl rfl rfl
 refine T.block ?_
 obtain ⟨n7, n12⟩ := loop_some ht5
 refine T.loop (fun n S' => ∃ S'', Gst S' S'' ∧ ∃ s6 : Int × (List row_Row), S'' = ⟨[(13, (dN s6.1)), (12, (dN (x3.length : Int))), (11, .val (vn w4 0)), (5, .val (vn w4 0)), (4, (dP (blk p1))), (1, .fn (.func 185) [] [dP b0])], [.var b0 [.fn (.func 117) [] [dP b1, dP b2]] 130, .var b1 [dP b3] 28, .var b2 [.val v4] 88, .var b3 [.val v5] 264, .row v4 (List.map e_filter_Test a1) 4 65, .row v5 (lB a2) 1 5, .var (blk p1) [(eOP none)] 25, .row (vn w4 0) (List.map e_row_Row s6.2) 3 49], 28⟩ ∧ iter (walk_Map_row_Row.l1 a1 a2 x3) n s6 = some t5) n7 ?_ ?_
 · exact ⟨_, Gst.only [1, 4, 5, 11, 12, 13] rfl, (0, x3), rfl, n12⟩
 rintro n7 _ ⟨_, g, s6, rfl, i11⟩
 refine T.ghost g ?_
 obtain ⟨m8, q9, rfl, q10, i11⟩ := iter_succ i11
 unfold walk_Map_row_Row.l1 at q10
 refine aS ?_
 refine aA rfl rfl ?_
 refine aN rfl ?_
 refine T.seq ?_
 rcases ite_some q10 with ⟨c14, q10⟩ | ⟨c14, q10⟩
 rotate_left
 · refine T.condF rfl (eF c14) ?_
   refine T.exit ?_
   obtain rfl := osi q10
   obtain rfl : _ = _ := i11
   exact ⟨_, Gst.only [4, 5] rfl, rfl⟩
 refine T.condT rfl (eT c14) ?_
 refine aK rfl ?_
 refine T.seq ?_
 refine T.block ?_
 refine aS ?_
 refine aA rfl rfl ?_
 obtain ⟨x15, hx15, q10⟩ := bS q10
 refine TL.op1 (OpR.rowIndexM e_row_Row 7 hx15 rfl rfl rfl rfl rfl rfl rfl) rfl ?_
 refine TL.op1 (OpR.rowLoad0M (j := s6.1) e_row_Row 7 hx15 rfl rfl rfl rfl) rfl ?_
 refine TL.op (OpR.alloc rfl rfl (fun _ => rfl)) rfl (fun p16 => ?_)
 refine aA rfl rfl ?_
 refine TL.op0 (OpR.store 8 rfl rfl rfl rfl rfl rfl rfl rfl) ?_
 refine aN rfl ?_
 refine T.region ?_
 iterate 4 refine aA rfl rfl ?_
 refine TL.op1 (OpR.loadPtr 8 rfl rfl rfl rfl) rfl ?_
 obtain ⟨x17, hx17, q10⟩ := bS q10
 refine TL.op1 (OpR.callV [0, 1, 2, 3, 4, 5] rfl fn185 (filter_hide_1_c_2 hx17) rfl rfl rfl (fun _ => rfl)) rfl ?_
 refine TL.op1 (OpR.rowIndexM e_row_Row 7 hx15 rfl rfl rfl rfl rfl rfl rfl) rfl ?_
 refine TL.op0 (OpR.rowStore0M (j := s6.1) e_row_Row x17 7 hx15 rfl rfl rfl rfl rfl rfl rfl rfl rfl) ?_
 refine aN rfl ?_
 refine T.region ?_
 iterate 2 refine aA rfl rfl ?_
 refine TL.nil ?_
 obtain rfl := osi q10
 exact ⟨m8, Nat.lt_succ_self _, _, gP [1, 4, 5, 11, 12, 13] [0, 1, 2, 3, 4, 5, 6, 7] rfl rfl rfl, (w64 (s6.1 + 1), (s6.2.set s6.1.toNat x17)), rfl, i11⟩
theorem filter_hide_c_2 {a0 : grid_Grid} {a1 : List filter_Test} {a2 : List UInt8} {b0 : Nat} {b1 : Nat} {b2 : Nat} {v3 : Value} {v4 : Value} {res : grid_Grid} (h0 : filter_hide a0 a1 a2 = some res) : CallF X 116 [.agg [(eOP a0.fRows.fRoot), dT a0.fTail, dN a0.fEnd], .fn (.func 117) [] [dP b0, dP b1]] [.var b0 [dP b2] 28, .var b1 [.val v3] 88, .var b2 [.val v4] 264, .row v3 (List.map e_filter_Test a1) 4 65, .row v4 (lB a2) 1 5] (fun x => .agg [(eOP res.fRows.fRoot), dT res.fTail, dN res.fEnd]) (fun x => [.var b0 [dP b2] 28, .var b1 [.val v3] 88, .var b2 [.val v4] 264, .row v3 (List.map e_filter_Test a1) 4 65, .row v4 (lB a2) 1 5]) := by
 unfold filter_hide at h0
 refine CallF.mkG (X := X) rfl Tryz.func116 rfl rfl Tryz.ntmps116 rfl rfl ?_
 refine aS ?_
 refine TL.op (OpR.boxVar rfl rfl (fun _ => rfl)) rfl (fun p1 => ?_)
 refine TL.op (OpR.boxVar rfl rfl (fun _ => rfl)) rfl (fun p2 => ?_)
 refine TL.op (OpR.alloc rfl rfl (fun _ => rfl)) rfl (fun p3 => ?_)
 refine aN rfl ?_
 refine aS ?_
 refine aA rfl rfl ?_
 refine TL.op1 (OpR.loadPtr 5 rfl rfl rfl rfl) rfl ?_
 refine aA rfl rfl ?_
 obtain ⟨x4, hx4, h0⟩ := bS h0
 refine TL.op1 (OpR.call [6, 0, 1, 2, 3, 4] fn137 (walk_Map_row_Row_c_2 hx4) rfl rfl rfl (fun _ => rfl)) rfl ?_
 refine aA rfl rfl ?_
 refine TL.op0 (OpR.store 5 rfl rfl rfl rfl rfl rfl rfl rfl) ?_
 refine aN rfl ?_
 refine aS ?_
 refine TL.op1 (OpR.loadPtr 5 rfl rfl rfl rfl) rfl ?_
 refine TL.op0 (OpR.store 7 rfl rfl rfl rfl rfl rfl rfl rfl) ?_
 refine aN rfl ?_
 refine T.ret ?_
 obtain rfl := osi h0
 exact rP [0, 1, 2, 3, 4] [4] [0, 1, 2, 3, 4, 7] rfl rfl rfl undef (cV 5 rfl rfl rfl rfl ResL.nil) rfl rfl rfl rfl
theorem filter_Show_c_2 {a0 : grid_Grid} {a1 : List filter_Test} {a2 : List UInt8} {b0 : Nat} {v1 : Value} {v2 : Value} {res : grid_Grid × Int} (h0 : filter_Show a0 a1 a2 = some res) : CallF X 47 [.agg [(eOP a0.fRows.fRoot), dT a0.fTail, dN a0.fEnd], dP b0, .val v1] [.var b0 [.val v2] 264, .row v1 (List.map e_filter_Test a1) 4 65, .row v2 (lB a2) 1 5] (fun x => .tup [.agg [(eOP res.1.fRows.fRoot), dT res.1.fTail, dN res.1.fEnd], dN res.2]) (fun x => [.var b0 [.val v2] 264, .row v1 (List.map e_filter_Test a1) 4 65, .row v2 (lB a2) 1 5]) := by
 unfold filter_Show at h0
 refine CallF.mkG (X := X) rfl Tryz.func47 rfl rfl Tryz.ntmps47 rfl rfl ?_
 refine aS ?_
 refine TL.op1 (OpR.boxImm rfl rfl) rfl ?_
 refine TL.op (OpR.boxVar rfl rfl (fun _ => rfl)) rfl (fun p1 => ?_)
 refine TL.op (OpR.boxVar rfl rfl (fun _ => rfl)) rfl (fun p2 => ?_)
 refine TL.op (OpR.alloc rfl rfl (fun _ => rfl)) rfl (fun p3 => ?_)
 refine aA rfl rfl ?_
 refine aN rfl ?_
 refine T.seq ?_
 refine aS ?_
 refine TL.op1 (OpR.loadPtr 4 rfl rfl rfl rfl) rfl ?_
 obtain ⟨x4, hx4, h0⟩ := bS h0
 refine TL.op1 (OpR.call [1] fn115 (filter_wrong_c_2 hx4) rfl rfl rfl (fun _ => rfl)) rfl ?_
 refine aN rfl ?_
 rcases ite_some h0 with ⟨c5, h0⟩ | ⟨c5, h0⟩
 · refine T.condT rfl (c5) ?_
   refine aS ?_
   refine TL.op1 (OpR.build rfl rfl rfl rfl rfl) rfl ?_
   refine TL.op0 (OpR.store 5 rfl rfl rfl rfl rfl rfl rfl rfl) ?_
   refine aA rfl rfl ?_
   refine aN rfl ?_
   refine T.ret ?_
   obtain rfl := osi h0
   exact rP [0, 1, 2] [6, 7] [0, 1, 2, 5] rfl rfl rfl undef (cV 3 rfl rfl rfl rfl (cT rfl ResL.nil)) rfl rfl rfl rfl
 refine T.condF rfl (eq_false_of_ne_true c5) ?_
 refine aK rfl ?_
 refine aS ?_
 iterate 2 refine aA rfl rfl ?_
 obtain ⟨x6, hx6, h0⟩ := bS h0
 refine TL.op1 (OpR.call [3, 4, 0, 1, 2] fn116 (filter_hide_c_2 hx6) rfl rfl rfl (fun _ => rfl)) rfl ?_
 refine TL.op0 (OpR.store 5 rfl rfl rfl rfl rfl rfl rfl rfl) ?_
 refine aA rfl rfl ?_
 refine aN rfl ?_
 refine T.ret ?_
 obtain rfl := osi h0
 exact rP [0, 1, 2] [6, 7] [0, 1, 2, 5] rfl rfl rfl undef (cV 3 rfl rfl rfl rfl (cT rfl ResL.nil)) rfl rfl rfl rfl
noncomputable def filter_Narrow_1 (a0 : row_Row) (a1 : List filter_Test) (a2 : List UInt8) : Option Bool :=
  bnd (if a0.fHidden = true then
    some true
  else
    bnd (filter_all a0 a1 a2) fun x3 =>
    some (!x3) : Option Bool) fun t1 =>
  some t1
theorem filter_Narrow_1_c {a0 : row_Row} {a1 : List filter_Test} {a2 : List UInt8} {b0 : Nat} {b1 : Nat} {b2 : Nat} {v3 : Value} {v4 : Value} {res : Bool} (h0 : filter_Narrow_1 a0 a1 a2 = some res) : CallF X 119 [.agg [.sl 5 (List.map e_cell_Cell a0.fCells), dN a0.fEnd, dT a0.fHidden], dP b0, dP b1] [.var b0 [dP b2] 28, .var b1 [.val v3] 88, .var b2 [.val v4] 264, .row v3 (List.map e_filter_Test a1) 4 65, .row v4 (lB a2) 1 5] (fun x => (dT res)) (fun x => [.var b0 [dP b2] 28, .var b1 [.val v3] 88, .var b2 [.val v4] 264, .row v3 (List.map e_filter_Test a1) 4 65, .row v4 (lB a2) 1 5]) := by
 unfold filter_Narrow_1 at h0
 refine CallF.mkG (X := X) rfl Tryz.func119 rfl rfl Tryz.ntmps119 rfl rfl ?_
 refine aS ?_
 refine TL.op1 (OpR.boxImm rfl rfl) rfl ?_
 refine aA rfl rfl ?_
 refine aN rfl ?_
 refine T.seq ?_
 obtain ⟨t1, ht1, h0⟩ := bS h0
 refine T.cutC (fun S' => S' = ⟨[(4, (dT t1))], [.var b0 [dP b2] 28, .var b1 [.val v3] 88, .var b2 [.val v4] 264, .row v3 (List.map e_filter_Test a1) 4 65, .row v4 (lB a2) 1 5], 14⟩) (fun _ h => h) ?_ ?_
 rotate_left
 · rintro _ rfl
   show T X _ _ _
   refine T.ret ?_
   obtain rfl := osi h0
   exact rO [0, 1, 2, 3, 4] [4] rfl undef (cT rfl ResL.nil) rfl rfl rfl rfl
 refine T.region ?_
 iterate 3 refine aA rfl rfl ?_
 rcases ite_some ht1 with ⟨c2, ht1⟩ | ⟨c2, ht1⟩
 · refine TL.off rfl rfl rfl rfl (c2) rfl rfl ?_
   refine TL.off rfl rfl rfl rfl (c2) rfl rfl ?_
   refine TL.off rfl rfl rfl rfl (c2) rfl rfl ?_
   refine TL.off rfl rfl rfl rfl (c2) rfl rfl ?_
   refine TL.off rfl rfl rfl rfl (c2) rfl rfl ?_
   refine TL.op1 (OpR.pickT rfl (c2) rfl) rfl ?_
   refine aA rfl rfl ?_
   refine TL.nil ?_
   obtain rfl := osi ht1
   exact ⟨_, Gst.only [4] rfl, rfl⟩
 refine TL.on rfl rfl rfl rfl (eq_false_of_ne_true c2) ?_
 refine aA rfl rfl ?_
 refine TL.on rfl rfl rfl rfl (eq_false_of_ne_true c2) ?_
 refine TL.op1 (OpR.loadPtr 0 rfl rfl rfl rfl) rfl ?_
 refine TL.on rfl rfl rfl rfl (eq_false_of_ne_true c2) ?_
 refine TL.op1 (OpR.loadPtr 1 rfl rfl rfl rfl) rfl ?_
 refine TL.on rfl rfl rfl rfl (eq_false_of_ne_true c2) ?_
 obtain ⟨x3, hx3, ht1⟩ := bS ht1
 refine TL.op1 (OpR.call [2, 3, 4] fn118 (filter_all_c_2 hx3) rfl rfl rfl (fun _ => rfl)) rfl ?_
 refine TL.on rfl rfl rfl rfl (eq_false_of_ne_true c2) ?_
 refine aA rfl rfl ?_
 refine TL.op1 (OpR.pickF rfl (eq_false_of_ne_true c2) rfl) rfl ?_
 refine aA rfl rfl ?_
 refine TL.nil ?_
 obtain rfl := osi ht1
 exact ⟨_, Gst.only [4] rfl, rfl⟩
noncomputable def filter_hide_1_4 (a0 : Int) (a1 : row_Row) (a2 : List filter_Test) (a3 : List UInt8) : Option row_Row :=
  bnd (filter_Narrow_1 a1 a2 a3) fun x3 =>
  bnd (row_Row_Hide a1 x3) fun x4 =>
  some x4
theorem filter_hide_1_4_c {a0 : Int} {a1 : row_Row} {a2 : List filter_Test} {a3 : List UInt8} {b0 : Nat} {b1 : Nat} {b2 : Nat} {b3 : Nat} {v4 : Value} {v5 : Value} {res : row_Row} (h0 : filter_hide_1_4 a0 a1 a2 a3 = some res) : CallF X 185 [dN a0, .agg [.sl 5 (List.map e_cell_Cell a1.fCells), dN a1.fEnd, dT a1.fHidden], dP b0] [.var b0 [.fn (.func 119) [] [dP b1, dP b2]] 130, .var b1 [dP b3] 28, .var b2 [.val v4] 88, .var b3 [.val v5] 264, .row v4 (List.map e_filter_Test a2) 4 65, .row v5 (lB a3) 1 5] (fun x => .agg [.sl 5 (List.map e_cell_Cell res.fCells), dN res.fEnd, dT res.fHidden]) (fun x => [.var b0 [.fn (.func 119) [] [dP b1, dP b2]] 130, .var b1 [dP b3] 28, .var b2 [.val v4] 88, .var b3 [.val v5] 264, .row v4 (List.map e_filter_Test a2) 4 65, .row v5 (lB a3) 1 5]) := by
 unfold filter_hide_1_4 at h0
 refine CallF.mkG (X := X) rfl Tryz.func185 rfl rfl Tryz.ntmps185 rfl rfl ?_
 refine aS ?_
 refine TL.op1 (OpR.boxImm rfl rfl) rfl ?_
 refine TL.op (OpR.alloc rfl rfl (fun _ => rfl)) rfl (fun p1 => ?_)
 refine aN rfl ?_
 refine T.seq ?_
 obtain ⟨x3, hx3, h0⟩ := bS h0
 obtain ⟨x4, hx4, h0⟩ := bS h0
 refine T.drawS drawsX (fun env2 => [.agg [.sl 5 (List.map e_cell_Cell a1.fCells), dN a1.fEnd, dT a1.fHidden], .fn (.func 119) [] [dP b1, dP b2], .agg [.sl 5 (List.map e_cell_Cell a1.fCells), dN a1.fEnd, dT a1.fHidden], dT x3, .agg [.sl 5 (List.map e_cell_Cell x4.fCells), dN x4.fEnd, dT x4.fHidden], .dead]) (fun D env2 => [.var b0 [.fn (.func 119) [] [dP b1, dP b2]] 130, .var b1 [dP b3] 28, .var b2 [.val v4] 88, .var b3 [.val v5] 264, .row v4 (List.map e_filter_Test a2) 4 65, .row v5 (lB a3) 1 5, (bif D 5 then .var (blk p1) [.sl 5 (List.map e_cell_Cell x4.fCells), dN x4.fEnd, dT x4.fHidden] 49 else .var (blk p1) [.val (.slice none 0 0), dN 0, dT false] 49)]) [0, 0, 0, 6, 15, 31] [5] _ (by decide +kernel) (by decide +kernel) (fun _ => rfl) (fun _ => rfl) ?_ (fun _ => rfl) (fun _ => rfl) ?_
 rotate_left
 · intro env2
   show T X _ _ _
   refine T.ret ?_
   obtain rfl := osi h0
   exact rO [0, 1, 2, 3, 4, 5] [5] rfl undef (cV 6 rfl rfl rfl rfl ResL.nil) rfl rfl rfl rfl
 refine aC ?_
 refine oT (.fn (.func 119) [] [dP b1, dP b2]) (fun _ _ => OpR.loadPtr 0 rfl rfl rfl rfl) ?_
 refine aC ?_
 refine OpsS.cons' true ?_ (fun _ _ _ _ _ _ _ => rfl) ?_
 · intro D env2 hA
   have e5 : D 5 = false := hA.no 5 _ rfl rfl
   exact OpS.yp [(5, false)] ⟨e5, trivial⟩ (Want.plain rfl) (OpR.callV [1, 2, 3, 4, 5] rfl fn119 (filter_Narrow_1_c hx3) rfl rfl rfl (fun _ => rfl)) (fun x => rfl) (fun x => rfl)
 refine oT (.agg [.sl 5 (List.map e_cell_Cell x4.fCells), dN x4.fEnd, dT x4.fHidden]) (fun _ _ => OpR.call0 fn121 (row_Row_Hide_c hx4) rfl) ?_
 refine OpsS.cons' true ?_ (fun _ _ _ _ _ _ _ => rfl) ?_
 · intro D env2 hA
   exact OpS.yp [(5, false)] ⟨hA.me, trivial⟩ (Want.plain rfl) (OpR.store 6 rfl rfl rfl rfl rfl rfl rfl rfl) (fun x => rfl) (fun x => rfl)
 exact trivial
noncomputable def walk_Map_row_Row_4.l1 (a1 : List filter_Test) (a2 : List UInt8) (x3 : (List row_Row)) (s6 : Int × (List row_Row)) : Option (Lp (Int × (List row_Row)) (List row_Row)) :=
  if s6.1 < (x3.length : Int) then
    bnd (idx s6.2 s6.1) fun x15 =>
    bnd (filter_hide_1_4 s6.1 x15 a1 a2) fun x17 =>
    some (Lp.next (w64 (s6.1 + 1), (s6.2.set s6.1.toNat x17)))
  else
    some (Lp.done s6.2)
noncomputable def walk_Map_row_Row_4 (a0 : tTr) (a1 : List filter_Test) (a2 : List UInt8) : Option tTr :=
  bnd (walk_All_row_Row a0) fun x2 =>
  bnd (slices_Clone_row_Row_row_Row x2) fun x3 =>
  bnd (loop (walk_Map_row_Row_4.l1 a1 a2 x3) (0, x3) : Option (List row_Row)) fun t5 =>
  bnd (tree_Of_row_Row t5) fun x18 =>
  some x18
theorem walk_Map_row_Row_4_c {a0 : tTr} {a1 : List filter_Test} {a2 : List UInt8} {b0 : Nat} {b1 : Nat} {b2 : Nat} {b3 : Nat} {v4 : Value} {v5 : Value} {res : tTr} (h0 : walk_Map_row_Row_4 a0 a1 a2 = some res) : CallF X 137 [.agg [(eOP a0.fRoot)], .fn (.func 185) [] [dP b0]] [.var b0 [.fn (.func 119) [] [dP b1, dP b2]] 130, .var b1 [dP b3] 28, .var b2 [.val v4] 88, .var b3 [.val v5] 264, .row v4 (List.map e_filter_Test a1) 4 65, .row v5 (lB a2) 1 5] (fun x => .agg [(eOP res.fRoot)]) (fun x => [.var b0 [.fn (.func 119) [] [dP b1, dP b2]] 130, .var b1 [dP b3] 28, .var b2 [.val v4] 88, .var b3 [.val v5] 264, .row v4 (List.map e_filter_Test a1) 4 65, .row v5 (lB a2) 1 5]) := by
 unfold walk_Map_row_Row_4 at h0
 refine CallF.mkG (X := X) rfl Tryz.func137 rfl rfl Tryz.ntmps137 rfl rfl ?_
 refine aS ?_
 refine TL.op1 (OpR.boxImm rfl rfl) rfl ?_
 refine TL.op (OpR.alloc rfl rfl (fun _ => rfl)) rfl (fun p1 => ?_)
 refine aN rfl ?_
 refine aS ?_
 refine aA rfl rfl ?_
 obtain ⟨x2, hx2, h0⟩ := bS h0
 refine TL.op1 (OpR.call0 fn100 (walk_All_row_Row_c hx2) rfl) rfl ?_
 obtain ⟨x3, hx3, h0⟩ := bS h0
 refine TL.op (OpR.call [] fn191 (slices_Clone_row_Row_row_Row_c hx3) rfl rfl rfl (fun _ => rfl)) rfl (fun w4 => ?_)
 refine aA rfl rfl ?_
 refine aN rfl ?_
 refine T.seq ?_
 refine aS ?_
 refine aA rfl rfl ?_
 refine TL.op1 (OpR.rowLenM e_row_Row 7 rfl rfl rfl rfl) rfl ?_
 refine aA rfl rfl ?_
 refine aN rfl ?_
 obtain ⟨t5, ht5, h0⟩ := bS h0
 refine T.cutC (fun S' => S' = ⟨[(5, .val (vn w4 0)), (4, (dP (blk p1)))], [.var b0 [.fn (.func 119) [] [dP b1, dP b2]] 130, .var b1 [dP b3] 28, .var b2 [.val v4] 88, .var b3 [.val v5] 264, .row v4 (List.map e_filter_Test a1) 4 65, .row v5 (lB a2) 1 5, .var (blk p1) [(eOP none)] 25, .row (vn w4 0) (List.map e_row_Row t5) 3 49], 28⟩) (fun _ h => h) ?_ ?_
 rotate_left
 · rintro _ rfl
   show T X _ _ _
   refine aS ?_
   refine aA rfl rfl ?_
   refine TL.ghost (Gst.freezeRow 7 rfl rfl (ReS.cons (Re.base .all) (ReS.refl _)) (ReO.same (ReO.same (ReO.same (ReO.same (ReO.same (ReO.same (ReO.same (ReO.same ReO.nil))))))))) ?_
   obtain ⟨x18, hx18, h0⟩ := bS h0
   refine TL.op1 (OpR.call0 fn101 (tree_Of_row_Row_c hx18) rfl) rfl ?_
   refine TL.op0 (OpR.store 6 rfl rfl rfl rfl rfl rfl rfl rfl) ?_
   refine aN rfl ?_
   refine T.ret ?_
   obtain rfl := osi h0
   exact rP [0, 1, 2, 3, 4, 5] [4] [0, 1, 2, 3, 4, 5, 6] rfl rfl rfl undef (cV 6 rfl rfl rfl rfl ResL.nil) rfl rfl rfl rfl
 refine T.block ?_
 obtain ⟨n7, n12⟩ := loop_some ht5
 refine T.loop (fun n S' => ∃ S'', Gst S' S'' ∧ ∃ s6 : Int × (List row_Row), S'' = ⟨[(13, (dN s6.1)), (12, (dN (x3.length : Int))), (11, .val (vn w4 0)), (5, .val (vn w4 0)), (4, (dP (blk p1))), (1, .fn (.func 185) [] [dP b0])], [.var b0 [.fn (.func 119) [] [dP b1, dP b2]] 130, .var b1 [dP b3] 28, .var b2 [.val v4] 88, .var b3 [.val v5] 264, .row v4 (List.map e_filter_Test a1) 4 65, .row v5 (lB a2) 1 5, .var (blk p1) [(eOP none)] 25, .row (vn w4 0) (List.map e_row_Row s6.2) 3 49], 28⟩ ∧ iter (walk_Map_row_Row_4.l1 a1 a2 x3) n s6 = some t5) n7 ?_ ?_
 · exact ⟨_, Gst.only [1, 4, 5, 11, 12, 13] rfl, (0, x3), rfl, n12⟩
 rintro n7 _ ⟨_, g, s6, rfl, i11⟩
 refine T.ghost g ?_
 obtain ⟨m8, q9, rfl, q10, i11⟩ := iter_succ i11
 unfold walk_Map_row_Row_4.l1 at q10
 refine aS ?_
 refine aA rfl rfl ?_
 refine aN rfl ?_
 refine T.seq ?_
 rcases ite_some q10 with ⟨c14, q10⟩ | ⟨c14, q10⟩
 rotate_left
 · refine T.condF rfl (eF c14) ?_
   refine T.exit ?_
   obtain rfl := osi q10
   obtain rfl : _ = _ := i11
   exact ⟨_, Gst.only [4, 5] rfl, rfl⟩
 refine T.condT rfl (eT c14) ?_
 refine aK rfl ?_
 refine T.seq ?_
 refine T.block ?_
 refine aS ?_
 refine aA rfl rfl ?_
 obtain ⟨x15, hx15, q10⟩ := bS q10
 refine TL.op1 (OpR.rowIndexM e_row_Row 7 hx15 rfl rfl rfl rfl rfl rfl rfl) rfl ?_
 refine TL.op1 (OpR.rowLoad0M (j := s6.1) e_row_Row 7 hx15 rfl rfl rfl rfl) rfl ?_
 refine TL.op (OpR.alloc rfl rfl (fun _ => rfl)) rfl (fun p16 => ?_)
 refine aA rfl rfl ?_
 refine TL.op0 (OpR.store 8 rfl rfl rfl rfl rfl rfl rfl rfl) ?_
 refine aN rfl ?_
 refine T.region ?_
 iterate 4 refine aA rfl rfl ?_
 refine TL.op1 (OpR.loadPtr 8 rfl rfl rfl rfl) rfl ?_
 obtain ⟨x17, hx17, q10⟩ := bS q10
 refine TL.op1 (OpR.callV [0, 1, 2, 3, 4, 5] rfl fn185 (filter_hide_1_4_c hx17) rfl rfl rfl (fun _ => rfl)) rfl ?_
 refine TL.op1 (OpR.rowIndexM e_row_Row 7 hx15 rfl rfl rfl rfl rfl rfl rfl) rfl ?_
 refine TL.op0 (OpR.rowStore0M (j := s6.1) e_row_Row x17 7 hx15 rfl rfl rfl rfl rfl rfl rfl rfl rfl) ?_
 refine aN rfl ?_
 refine T.region ?_
 iterate 2 refine aA rfl rfl ?_
 refine TL.nil ?_
 obtain rfl := osi q10
 exact ⟨m8, Nat.lt_succ_self _, _, gP [1, 4, 5, 11, 12, 13] [0, 1, 2, 3, 4, 5, 6, 7] rfl rfl rfl, (w64 (s6.1 + 1), (s6.2.set s6.1.toNat x17)), rfl, i11⟩
noncomputable def filter_hide_4 (a0 : grid_Grid) (a1 : List filter_Test) (a2 : List UInt8) : Option grid_Grid :=
  bnd (walk_Map_row_Row_4 a0.fRows a1 a2) fun x4 =>
  some (⟨x4, a0.fTail, a0.fEnd⟩ : grid_Grid)
theorem filter_hide_4_c {a0 : grid_Grid} {a1 : List filter_Test} {a2 : List UInt8} {b0 : Nat} {b1 : Nat} {b2 : Nat} {v3 : Value} {v4 : Value} {res : grid_Grid} (h0 : filter_hide_4 a0 a1 a2 = some res) : CallF X 116 [.agg [(eOP a0.fRows.fRoot), dT a0.fTail, dN a0.fEnd], .fn (.func 119) [] [dP b0, dP b1]] [.var b0 [dP b2] 28, .var b1 [.val v3] 88, .var b2 [.val v4] 264, .row v3 (List.map e_filter_Test a1) 4 65, .row v4 (lB a2) 1 5] (fun x => .agg [(eOP res.fRows.fRoot), dT res.fTail, dN res.fEnd]) (fun x => [.var b0 [dP b2] 28, .var b1 [.val v3] 88, .var b2 [.val v4] 264, .row v3 (List.map e_filter_Test a1) 4 65, .row v4 (lB a2) 1 5]) := by
 unfold filter_hide_4 at h0
 refine CallF.mkG (X := X) rfl Tryz.func116 rfl rfl Tryz.ntmps116 rfl rfl ?_
 refine aS ?_
 refine TL.op (OpR.boxVar rfl rfl (fun _ => rfl)) rfl (fun p1 => ?_)
 refine TL.op (OpR.boxVar rfl rfl (fun _ => rfl)) rfl (fun p2 => ?_)
 refine TL.op (OpR.alloc rfl rfl (fun _ => rfl)) rfl (fun p3 => ?_)
 refine aN rfl ?_
 refine aS ?_
 refine aA rfl rfl ?_
 refine TL.op1 (OpR.loadPtr 5 rfl rfl rfl rfl) rfl ?_
 refine aA rfl rfl ?_
 obtain ⟨x4, hx4, h0⟩ := bS h0
 refine TL.op1 (OpR.call [6, 0, 1, 2, 3, 4] fn137 (walk_Map_row_Row_4_c hx4) rfl rfl rfl (fun _ => rfl)) rfl ?_
 refine aA rfl rfl ?_
 refine TL.op0 (OpR.store 5 rfl rfl rfl rfl rfl rfl rfl rfl) ?_
 refine aN rfl ?_
 refine aS ?_
 refine TL.op1 (OpR.loadPtr 5 rfl rfl rfl rfl) rfl ?_
 refine TL.op0 (OpR.store 7 rfl rfl rfl rfl rfl rfl rfl rfl) ?_
 refine aN rfl ?_
 refine T.ret ?_
 obtain rfl := osi h0
 exact rP [0, 1, 2, 3, 4] [4] [0, 1, 2, 3, 4, 7] rfl rfl rfl undef (cV 5 rfl rfl rfl rfl ResL.nil) rfl rfl rfl rfl
noncomputable def filter_Narrow (a0 : grid_Grid) (a1 : List filter_Test) (a2 : List UInt8) : Option (grid_Grid × Int) :=
  bnd (filter_wrong a1) fun x4 =>
  if x4 = true then
    some ((⟨(⟨none⟩ : tTr), false, 0⟩ : grid_Grid), 1)
  else
    bnd (filter_hide_4 a0 a1 a2) fun x6 =>
    some (x6, 0)
theorem filter_Narrow_c {a0 : grid_Grid} {a1 : List filter_Test} {a2 : List UInt8} {b0 : Nat} {v1 : Value} {v2 : Value} {res : grid_Grid × Int} (h0 : filter_Narrow a0 a1 a2 = some res) : CallF X 48 [.agg [(eOP a0.fRows.fRoot), dT a0.fTail, dN a0.fEnd], dP b0, .val v1] [.var b0 [.val v2] 264, .row v1 (List.map e_filter_Test a1) 4 65, .row v2 (lB a2) 1 5] (fun x => .tup [.agg [(eOP res.1.fRows.fRoot), dT res.1.fTail, dN res.1.fEnd], dN res.2]) (fun x => [.var b0 [.val v2] 264, .row v1 (List.map e_filter_Test a1) 4 65, .row v2 (lB a2) 1 5]) := by
 unfold filter_Narrow at h0
 refine CallF.mkG (X := X) rfl Tryz.func48 rfl rfl Tryz.ntmps48 rfl rfl ?_
 refine aS ?_
 refine TL.op1 (OpR.boxImm rfl rfl) rfl ?_
 refine TL.op (OpR.boxVar rfl rfl (fun _ => rfl)) rfl (fun p1 => ?_)
 refine TL.op (OpR.boxVar rfl rfl (fun _ => rfl)) rfl (fun p2 => ?_)
 refine TL.op (OpR.alloc rfl rfl (fun _ => rfl)) rfl (fun p3 => ?_)
 refine aA rfl rfl ?_
 refine aN rfl ?_
 refine T.seq ?_
 refine aS ?_
 refine TL.op1 (OpR.loadPtr 4 rfl rfl rfl rfl) rfl ?_
 obtain ⟨x4, hx4, h0⟩ := bS h0
 refine TL.op1 (OpR.call [1] fn115 (filter_wrong_c_2 hx4) rfl rfl rfl (fun _ => rfl)) rfl ?_
 refine aN rfl ?_
 rcases ite_some h0 with ⟨c5, h0⟩ | ⟨c5, h0⟩
 · refine T.condT rfl (c5) ?_
   refine aS ?_
   refine TL.op1 (OpR.build rfl rfl rfl rfl rfl) rfl ?_
   refine TL.op0 (OpR.store 5 rfl rfl rfl rfl rfl rfl rfl rfl) ?_
   refine aA rfl rfl ?_
   refine aN rfl ?_
   refine T.ret ?_
   obtain rfl := osi h0
   exact rP [0, 1, 2] [6, 7] [0, 1, 2, 5] rfl rfl rfl undef (cV 3 rfl rfl rfl rfl (cT rfl ResL.nil)) rfl rfl rfl rfl
 refine T.condF rfl (eq_false_of_ne_true c5) ?_
 refine aK rfl ?_
 refine aS ?_
 iterate 2 refine aA rfl rfl ?_
 obtain ⟨x6, hx6, h0⟩ := bS h0
 refine TL.op1 (OpR.call [3, 4, 0, 1, 2] fn116 (filter_hide_4_c hx6) rfl rfl rfl (fun _ => rfl)) rfl ?_
 refine TL.op0 (OpR.store 5 rfl rfl rfl rfl rfl rfl rfl rfl) ?_
 refine aA rfl rfl ?_
 refine aN rfl ?_
 refine T.ret ?_
 obtain rfl := osi h0
 exact rP [0, 1, 2] [6, 7] [0, 1, 2, 5] rfl rfl rfl undef (cV 3 rfl rfl rfl rfl (cT rfl ResL.nil)) rfl rfl rfl rfl
noncomputable def tree_Tree_row_Row_has (a0 : tTr) (a1 : Int) : Option Bool :=
  bnd (if a1 ≥ 0 then
    bnd (tree_Tree_row_Row_Len a0) fun x3 =>
    some (decide (a1 < x3))
  else
    some false : Option Bool) fun t1 =>
  some t1
theorem tree_Tree_row_Row_has_c {a0 : tTr} {a1 : Int} {res : Bool} (h0 : tree_Tree_row_Row_has a0 a1 = some res) : CallF X 151 [.agg [(eOP a0.fRoot)], dN a1] [] (fun x => (dT res)) (fun x => []) := by
 unfold tree_Tree_row_Row_has at h0
 refine CallF.mkG (X := X) rfl Tryz.func151 rfl rfl Tryz.ntmps151 rfl rfl ?_
 refine aS ?_
 refine TL.op1 (OpR.boxImm rfl rfl) rfl ?_
 refine aA rfl rfl ?_
 refine aN rfl ?_
 refine T.seq ?_
 obtain ⟨t1, ht1, h0⟩ := bS h0
 refine T.cutC (fun S' => S' = ⟨[(4, (dT t1))], [], 13⟩) (fun _ h => h) ?_ ?_
 rotate_left
 · rintro _ rfl
   show T X _ _ _
   refine T.ret ?_
   obtain rfl := osi h0
   exact rO [] [4] rfl undef (cT rfl ResL.nil) rfl rfl rfl rfl
 refine T.region ?_
 iterate 3 refine aA rfl rfl ?_
 rcases ite_some ht1 with ⟨c2, ht1⟩ | ⟨c2, ht1⟩
 rotate_left
 · refine TL.off rfl rfl rfl rfl (eF c2) rfl rfl ?_
   refine TL.off rfl rfl rfl rfl (eF c2) rfl rfl ?_
   refine TL.off rfl rfl rfl rfl (eF c2) rfl rfl ?_
   refine TL.off rfl rfl rfl rfl (eF c2) rfl rfl ?_
   refine TL.op1 (OpR.pickF rfl (eF c2) rfl) rfl ?_
   refine aA rfl rfl ?_
   refine TL.nil ?_
   obtain rfl := osi ht1
   exact ⟨_, Gst.only [4] rfl, rfl⟩
 refine TL.on rfl rfl rfl rfl (eT c2) ?_
 refine aA rfl rfl ?_
 refine TL.on rfl rfl rfl rfl (eT c2) ?_
 refine aA rfl rfl ?_
 refine TL.on rfl rfl rfl rfl (eT c2) ?_
 obtain ⟨x3, hx3, ht1⟩ := bS ht1
 refine TL.op1 (OpR.call0 fn79 (tree_Tree_row_Row_Len_c hx3) rfl) rfl ?_
 refine TL.on rfl rfl rfl rfl (eT c2) ?_
 refine aA rfl rfl ?_
 refine TL.op1 (OpR.pickT rfl (eT c2) rfl) rfl ?_
 refine aA rfl rfl ?_
 refine TL.nil ?_
 obtain rfl := osi ht1
 exact ⟨_, Gst.only [4] rfl, rfl⟩
noncomputable def tree_Node_row_Row_flat (a0 : List NP) (a1 : List row_Row) (a2 : Int) : Option Bool :=
  some ((a0.length : Int) == 0)
theorem tree_Node_row_Row_flat_c {a0 : List NP} {a1 : List row_Row} {a2 : Int} {res : Bool} (h0 : tree_Node_row_Row_flat a0 a1 a2 = some res) : CallF X 152 [.nod [.sl 1 (List.map eNP a0), .sl 3 (List.map e_row_Row a1), dN a2]] [] (fun x => (dT res)) (fun x => []) := by
 unfold tree_Node_row_Row_flat at h0
 refine CallF.mkG (X := X) rfl Tryz.func152 rfl rfl Tryz.ntmps152 rfl rfl ?_
 refine aS ?_
 refine aA rfl rfl ?_
 refine aN rfl ?_
 refine aS ?_
 iterate 4 refine aA rfl rfl ?_
 refine TL.op1 (OpR.cast (OpR.pure rfl) (intE (lenM _ _))) rfl ?_
 iterate 2 refine aA rfl rfl ?_
 refine aN rfl ?_
 refine T.ret ?_
 obtain rfl := osi h0
 exact rO [] [2] rfl undef (cT rfl ResL.nil) rfl rfl rfl rfl
noncomputable def tree_Node_row_Row_kid.l1 (a0 : List NP) (s2 : Int × Int) : Option (Lp (Int × Int) (Int × Int)) :=
  bnd (if s2.2 < (w64 ((a0.length : Int) - 1)) then
    bnd (idx a0 s2.2) fun x12 =>
    bnd (o_tNd x12) fun x13 =>
    some (decide (s2.1 ≥ x13.fN))
  else
    some false : Option Bool) fun t10 =>
  if t10 = true then
    bnd (idx a0 s2.2) fun x15 =>
    bnd (o_tNd x15) fun x16 =>
    some (Lp.next (w64 (s2.1 - x16.fN), w64 (s2.2 + 1)))
  else
    some (Lp.done (s2.1, s2.2))
noncomputable def tree_Node_row_Row_kid (a0 : List NP) (a1 : List row_Row) (a2 : Int) (a3 : Int) : Option (Int × Int) :=
  bnd (loop (tree_Node_row_Row_kid.l1 a0) (a3, 0) : Option (Int × Int)) fun t1 =>
  some (t1.2, t1.1)
theorem tree_Node_row_Row_kid_c {a0 : List NP} {a1 : List row_Row} {a2 : Int} {a3 : Int} {res : Int × Int} (h0 : tree_Node_row_Row_kid a0 a1 a2 a3 = some res) : CallF X 153 [.nod [.sl 1 (List.map eNP a0), .sl 3 (List.map e_row_Row a1), dN a2], dN a3] [] (fun x => .tup [dN res.1, dN res.2]) (fun x => []) := by
 unfold tree_Node_row_Row_kid at h0
 refine CallF.mkG (X := X) rfl Tryz.func153 rfl rfl Tryz.ntmps153 rfl rfl ?_
 refine aS ?_
 iterate 2 refine aA rfl rfl ?_
 refine aN rfl ?_
 refine aS ?_
 refine aA rfl rfl ?_
 refine aN rfl ?_
 refine T.seq ?_
 obtain ⟨t1, ht1, h0⟩ := bS h0
 refine T.cutC (fun S' => S' = ⟨[(6, (dN t1.2)), (5, (dN 0)), (4, (dN 0)), (1, (dN t1.1))], [], 45⟩) (fun _ h => h) ?_ ?_
 rotate_left
 · rintro _ rfl
   show T X _ _ _
   refine aS ?_
   iterate 4 refine aA rfl rfl ?_
   refine aN rfl ?_
   refine T.ret ?_
   obtain rfl := osi h0
   exact rO [] [4, 5] rfl undef (cT rfl (cT rfl ResL.nil)) rfl rfl rfl rfl
 refine T.block ?_
 obtain ⟨n3, n8⟩ := loop_some ht1
 refine T.loop (fun n S' => ∃ S'', Gst S' S'' ∧ ∃ s2 : Int × Int, S'' = ⟨[(6, (dN s2.2)), (5, (dN 0)), (4, (dN 0)), (1, (dN s2.1)), (0, .nod [.sl 1 (List.map eNP a0), .sl 3 (List.map e_row_Row a1), dN a2])], [], 45⟩ ∧ iter (tree_Node_row_Row_kid.l1 a0) n s2 = some t1) n3 ?_ ?_
 · exact ⟨_, Gst.only [0, 1, 4, 5, 6] rfl, (a3, 0), rfl, n8⟩
 rintro n3 _ ⟨_, g, s2, rfl, i7⟩
 refine T.ghost g ?_
 obtain ⟨m4, q5, rfl, q6, i7⟩ := iter_succ i7
 unfold tree_Node_row_Row_kid.l1 at q6
 refine T.seq ?_
 refine T.seq ?_
 obtain ⟨t10, ht10, q6⟩ := bS q6
 refine T.cutC (fun S' => S' = ⟨[(28, (dT t10)), (6, (dN s2.2)), (5, (dN 0)), (4, (dN 0)), (1, (dN s2.1)), (0, .nod [.sl 1 (List.map eNP a0), .sl 3 (List.map e_row_Row a1), dN a2])], [], 45⟩) (fun _ h => h) ?_ ?_
 rotate_left
 · rintro _ rfl
   show T X _ _ _
   rcases ite_some q6 with ⟨c14, q6⟩ | ⟨c14, q6⟩
   rotate_left
   · refine T.condF rfl (eq_false_of_ne_true c14) ?_
     refine T.exit ?_
     obtain rfl := osi q6
     obtain rfl : _ = _ := i7
     exact ⟨_, Gst.only [1, 4, 5, 6] rfl, rfl⟩
   refine T.condT rfl (c14) ?_
   refine aK rfl ?_
   refine T.block ?_
   refine aS ?_
   iterate 6 refine aA rfl rfl ?_
   obtain ⟨x15, hx15, q6⟩ := bS q6
   obtain ⟨x16, hx16, q6⟩ := bS q6
   rw [o_tNd_eq hx16] at hx15
   refine TL.op1 (OpR.indexM eNP hx15 rfl rfl rfl rfl rfl) rfl ?_
   iterate 6 refine aA rfl rfl ?_
   refine aN rfl ?_
   refine T.region ?_
   iterate 3 refine aA rfl rfl ?_
   refine TL.nil ?_
   obtain rfl := osi q6
   exact ⟨m4, Nat.lt_succ_self _, _, Gst.only [0, 1, 4, 5, 6] rfl, (w64 (s2.1 - x16.fN), w64 (s2.2 + 1)), rfl, i7⟩
 refine T.region ?_
 iterate 5 refine aA rfl rfl ?_
 refine TL.op1 (OpR.cast (OpR.pure rfl) (intE (lenM _ _))) rfl ?_
 iterate 3 refine aA rfl rfl ?_
 rcases ite_some ht10 with ⟨c11, ht10⟩ | ⟨c11, ht10⟩
 rotate_left
 · refine TL.off rfl rfl rfl rfl (eF c11) rfl rfl ?_
   refine TL.off rfl rfl rfl rfl (eF c11) rfl rfl ?_
   refine TL.off rfl rfl rfl rfl (eF c11) rfl rfl ?_
   refine TL.off rfl rfl rfl rfl (eF c11) rfl rfl ?_
   refine TL.off rfl rfl rfl rfl (eF c11) rfl rfl ?_
   refine TL.off rfl rfl rfl rfl (eF c11) rfl rfl ?_
   refine TL.off rfl rfl rfl rfl (eF c11) rfl rfl ?_
   refine TL.off rfl rfl rfl rfl (eF c11) rfl rfl ?_
   refine TL.off rfl rfl rfl rfl (eF c11) rfl rfl ?_
   refine TL.off rfl rfl rfl rfl (eF c11) rfl rfl ?_
   refine TL.off rfl rfl rfl rfl (eF c11) rfl rfl ?_
   refine TL.off rfl rfl rfl rfl (eF c11) rfl rfl ?_
   refine TL.op1 (OpR.pickF rfl (eF c11) rfl) rfl ?_
   refine TL.nil ?_
   obtain rfl := osi ht10
   exact ⟨_, Gst.only [0, 1, 4, 5, 6, 28] rfl, rfl⟩
 refine TL.on rfl rfl rfl rfl (eT c11) ?_
 refine aA rfl rfl ?_
 refine TL.on rfl rfl rfl rfl (eT c11) ?_
 refine aA rfl rfl ?_
 refine TL.on rfl rfl rfl rfl (eT c11) ?_
 refine aA rfl rfl ?_
 refine TL.on rfl rfl rfl rfl (eT c11) ?_
 refine aA rfl rfl ?_
 refine TL.on rfl rfl rfl rfl (eT c11) ?_
 refine aA rfl rfl ?_
 refine TL.on rfl rfl rfl rfl (eT c11) ?_
 refine aA rfl rfl ?_
 refine TL.on rfl rfl rfl rfl (eT c11) ?_
 obtain ⟨x12, hx12, ht10⟩ := bS ht10
 obtain ⟨x13, hx13, ht10⟩ := bS ht10
 rw [o_tNd_eq hx13] at hx12
 refine TL.op1 (OpR.indexM eNP hx12 rfl rfl rfl rfl rfl) rfl ?_
 refine TL.on rfl rfl rfl rfl (eT c11) ?_
 refine aA rfl rfl ?_
 refine TL.on rfl rfl rfl rfl (eT c11) ?_
 refine aA rfl rfl ?_
 refine TL.on rfl rfl rfl rfl (eT c11) ?_
 refine aA rfl rfl ?_
 refine TL.on rfl rfl rfl rfl (eT c11) ?_
 refine aA rfl rfl ?_
 refine TL.on rfl rfl rfl rfl (eT c11) ?_
 refine aA rfl rfl ?_
 refine TL.op1 (OpR.pickT rfl (eT c11) rfl) rfl ?_
 refine TL.nil ?_
 obtain rfl := osi ht10
 exact ⟨_, Gst.only [0, 1, 4, 5, 6, 28] rfl, rfl⟩
noncomputable def tree_Tree_row_Row_At.l1 (s7 : Unit) : Option (Lp Unit (row_Row × Bool)) :=
  none
noncomputable def tree_Tree_row_Row_At.l2 (s17 : Int × (List NP) × (List row_Row) × Int) : Option (Lp (Int × (List NP) × (List row_Row) × Int) (Int × (List NP) × (List row_Row) × Int)) :=
  bnd (tree_Node_row_Row_flat s17.2.1 s17.2.2.1 s17.2.2.2) fun x25 =>
  if x25 = true then
    some (Lp.done (s17.1, s17.2.1, s17.2.2.1, s17.2.2.2))
  else
    bnd (tree_Node_row_Row_kid s17.2.1 s17.2.2.1 s17.2.2.2 s17.1) fun x27 =>
    bnd (idx s17.2.1 x27.1) fun x28 =>
    bnd (o_tNd x28) fun x29 =>
    some (Lp.next (x27.2, x29.fKids, x29.fItems, x29.fN))
noncomputable def tree_Tree_row_Row_At (a0 : tTr) (a1 : Int) : Option (row_Row × Bool) :=
  bnd (tree_Tree_row_Row_has a0 a1) fun x2 =>
  if x2 = true then
    bnd (some a0.fRoot) fun q4 => match q4 with
      | none =>
        loop tree_Tree_row_Row_At.l1 ()
      | some z5 =>
        bnd (o_tNd z5) fun x15 =>
        bnd (loop tree_Tree_row_Row_At.l2 (a1, x15.fKids, x15.fItems, x15.fN) : Option (Int × (List NP) × (List row_Row) × Int)) fun t16 =>
        bnd (idx t16.2.2.1 t16.1) fun x30 =>
        some (x30, true)
  else
    some ((⟨[], 0, false⟩ : row_Row), false)
theorem tree_Tree_row_Row_At_c {a0 : tTr} {a1 : Int} {res : row_Row × Bool} (h0 : tree_Tree_row_Row_At a0 a1 = some res) : CallF X 81 [.agg [(eOP a0.fRoot)], dN a1] [] (fun x => .tup [.agg [.sl 5 (List.map e_cell_Cell res.1.fCells), dN res.1.fEnd, dT res.1.fHidden], dT res.2]) (fun x => []) := by
 unfold tree_Tree_row_Row_At at h0
 refine CallF.mkG (X := X) rfl Tryz.func81 rfl rfl Tryz.ntmps81 rfl rfl ?_
 refine aS ?_
 refine TL.op1 (OpR.boxImm rfl rfl) rfl ?_
 refine TL.op (OpR.alloc rfl rfl (fun _ => rfl)) rfl (fun p1 => ?_)
 refine aA rfl rfl ?_
 refine aN rfl ?_
 refine T.seq ?_
 refine aS ?_
 iterate 2 refine aA rfl rfl ?_
 obtain ⟨x2, hx2, h0⟩ := bS h0
 refine TL.op1 (OpR.call0 fn151 (tree_Tree_row_Row_has_c hx2) rfl) rfl ?_
 refine aA rfl rfl ?_
 refine aN rfl ?_
 rcases ite_some h0 with ⟨c3, h0⟩ | ⟨c3, h0⟩
 rotate_left
 · refine T.condT rfl (not_f (eq_false_of_ne_true c3)) ?_
   refine aS ?_
   refine TL.op (OpR.alloc rfl rfl (fun _ => rfl)) rfl (fun p31 => ?_)
   refine aN rfl ?_
   refine aS ?_
   refine TL.op1 (OpR.loadPtr 1 rfl rfl rfl rfl) rfl ?_
   refine TL.op0 (OpR.store 0 rfl rfl rfl rfl rfl rfl rfl rfl) ?_
   refine aA rfl rfl ?_
   refine aN rfl ?_
   refine T.ret ?_
   obtain rfl := osi h0
   exact PostG.retP (ks := []) (Gst.trans (Gst.only [4, 5] rfl) (Gst.trans (Gst.denil (ReS.cons Re.refl (ReS.cons Re.refl ReS.nil)) (ReO.var (ReL.cons (Re.base .nil) (ReL.cons Re.refl (ReL.cons Re.refl ReL.nil))) (ReO.same ReO.nil))) (Gst.pick [0] rfl rfl))) undef (cV 0 rfl rfl rfl rfl (cT rfl ResL.nil)) rfl rfl rfl rfl
 refine T.condF rfl (not_t (c3)) ?_
 refine aK rfl ?_
 refine aS ?_
 refine aA rfl rfl ?_
 obtain ⟨q4, hq4, h0⟩ := bS h0
 rcases q4 with _ | z5
 · dsimp only at h0
   refine TL.op1 (OpR.cast (OpR.pure rfl) (congrArg eOP (osi hq4))) rfl ?_
   refine aA rfl rfl ?_
   refine aN rfl ?_
   refine T.seq ?_
   refine T.block ?_
   obtain ⟨n8, n13⟩ := loop_some h0
   refine T.loop (fun n S' => ∃ S'', Gst S' S'' ∧ ∃ s7 : Unit, S'' = ⟨[(7, dQ), (5, (dT false)), (4, (dP (blk p1))), (1, (dN a1))], [.var (blk p1) [.val (.slice none 0 0), dN 0, dT false] 49], 41⟩ ∧ iter tree_Tree_row_Row_At.l1 n s7 = some res) n8 ?_ ?_
   · exact ⟨_, Gst.only [1, 4, 5, 7] rfl, (), rfl, n13⟩
   rintro n8 _ ⟨_, g, s7, rfl, i12⟩
   refine T.ghost g ?_
   obtain ⟨m9, q10, rfl, q11, i12⟩ := iter_succ i12
   unfold tree_Tree_row_Row_At.l1 at q11
   refine T.seq ?_
   refine aS ?_
   refine aA rfl rfl ?_
   exact (by cases q11)
 dsimp only at h0
 obtain ⟨x15, hx15, h0⟩ := bS h0
 rw [o_tNd_eq hx15] at hq4
 refine TL.op1 (OpR.cast (OpR.pure rfl) (congrArg eOP (osi hq4))) rfl ?_
 refine aA rfl rfl ?_
 refine aN rfl ?_
 refine T.seq ?_
 obtain ⟨t16, ht16, h0⟩ := bS h0
 refine T.cutC (fun S' => S' = ⟨[(7, .nod [.sl 1 (List.map eNP t16.2.1), .sl 3 (List.map e_row_Row t16.2.2.1), dN t16.2.2.2]), (5, (dT false)), (4, (dP (blk p1))), (1, (dN t16.1))], [.var (blk p1) [.val (.slice none 0 0), dN 0, dT false] 49], 41⟩) (fun _ h => h) ?_ ?_
 rotate_left
 · rintro _ rfl
   show T X _ _ _
   refine aS ?_
   iterate 5 refine aA rfl rfl ?_
   obtain ⟨x30, hx30, h0⟩ := bS h0
   refine TL.op1 (OpR.indexM e_row_Row hx30 rfl rfl rfl rfl rfl) rfl ?_
   refine aA rfl rfl ?_
   refine TL.op0 (OpR.store 0 rfl rfl rfl rfl rfl rfl rfl rfl) ?_
   refine aA rfl rfl ?_
   refine aN rfl ?_
   refine T.ret ?_
   obtain rfl := osi h0
   exact rO [] [4, 5] rfl undef (cV 0 rfl rfl rfl rfl (cT rfl ResL.nil)) rfl rfl rfl rfl
 refine T.block ?_
 obtain ⟨n18, n23⟩ := loop_some ht16
 refine T.loop (fun n S' => ∃ S'', Gst S' S'' ∧ ∃ s17 : Int × (List NP) × (List row_Row) × Int, S'' = ⟨[(7, .nod [.sl 1 (List.map eNP s17.2.1), .sl 3 (List.map e_row_Row s17.2.2.1), dN s17.2.2.2]), (5, (dT false)), (4, (dP (blk p1))), (1, (dN s17.1))], [.var (blk p1) [.val (.slice none 0 0), dN 0, dT false] 49], 41⟩ ∧ iter tree_Tree_row_Row_At.l2 n s17 = some t16) n18 ?_ ?_
 · exact ⟨_, Gst.only [1, 4, 5, 7] rfl, (a1, x15.fKids, x15.fItems, x15.fN), rfl, n23⟩
 rintro n18 _ ⟨_, g, s17, rfl, i22⟩
 refine T.ghost g ?_
 obtain ⟨m19, q20, rfl, q21, i22⟩ := iter_succ i22
 unfold tree_Tree_row_Row_At.l2 at q21
 refine T.seq ?_
 refine aS ?_
 refine aA rfl rfl ?_
 obtain ⟨x25, hx25, q21⟩ := bS q21
 refine TL.op1 (OpR.call0 fn152 (tree_Node_row_Row_flat_c hx25) rfl) rfl ?_
 refine aA rfl rfl ?_
 refine aN rfl ?_
 rcases ite_some q21 with ⟨c26, q21⟩ | ⟨c26, q21⟩
 · refine T.condF rfl (not_t (c26)) ?_
   refine T.exit ?_
   obtain rfl := osi q21
   obtain rfl : _ = _ := i22
   exact ⟨_, Gst.only [1, 4, 5, 7] rfl, rfl⟩
 refine T.condT rfl (not_f (eq_false_of_ne_true c26)) ?_
 refine aK rfl ?_
 refine T.block ?_
 refine aS ?_
 iterate 2 refine aA rfl rfl ?_
 obtain ⟨x27, hx27, q21⟩ := bS q21
 refine TL.op1 (OpR.call0 fn153 (tree_Node_row_Row_kid_c hx27) rfl) rfl ?_
 iterate 5 refine aA rfl rfl ?_
 refine aN rfl ?_
 refine T.region ?_
 iterate 5 refine aA rfl rfl ?_
 obtain ⟨x28, hx28, q21⟩ := bS q21
 obtain ⟨x29, hx29, q21⟩ := bS q21
 rw [o_tNd_eq hx29] at hx28
 refine TL.op1 (OpR.indexM eNP hx28 rfl rfl rfl rfl rfl) rfl ?_
 iterate 4 refine aA rfl rfl ?_
 refine TL.nil ?_
 obtain rfl := osi q21
 exact ⟨m19, Nat.lt_succ_self _, _, Gst.only [1, 4, 5, 7] rfl, (x27.2, x29.fKids, x29.fItems, x29.fN), rfl, i22⟩
noncomputable def grid_Grid_Row (a0 : grid_Grid) (a1 : Int) : Option (row_Row × Bool) :=
  bnd (tree_Tree_row_Row_At a0.fRows a1) fun x2 =>
  some (x2.1, x2.2)
theorem grid_Grid_Row_c {a0 : grid_Grid} {a1 : Int} {res : row_Row × Bool} (h0 : grid_Grid_Row a0 a1 = some res) : CallF X 24 [.agg [(eOP a0.fRows.fRoot), dT a0.fTail, dN a0.fEnd], dN a1] [] (fun x => .tup [.agg [.sl 5 (List.map e_cell_Cell res.1.fCells), dN res.1.fEnd, dT res.1.fHidden], dT res.2]) (fun x => []) := by
 unfold grid_Grid_Row at h0
 refine CallF.mkG (X := X) rfl Tryz.func24 rfl rfl Tryz.ntmps24 rfl rfl ?_
 refine aS ?_
 refine TL.op1 (OpR.boxImm rfl rfl) rfl ?_
 refine TL.op (OpR.alloc rfl rfl (fun _ => rfl)) rfl (fun p1 => ?_)
 refine aA rfl rfl ?_
 refine aN rfl ?_
 refine aS ?_
 iterate 3 refine aA rfl rfl ?_
 obtain ⟨x2, hx2, h0⟩ := bS h0
 refine TL.op1 (OpR.call0 fn81 (tree_Tree_row_Row_At_c hx2) rfl) rfl ?_
 iterate 2 refine aA rfl rfl ?_
 refine TL.op0 (OpR.store 0 rfl rfl rfl rfl rfl rfl rfl rfl) ?_
 refine aA rfl rfl ?_
 refine aN rfl ?_
 refine T.ret ?_
 obtain rfl := osi h0
 exact rO [] [4, 5] rfl undef (cV 0 rfl rfl rfl rfl (cT rfl ResL.nil)) rfl rfl rfl rfl
noncomputable def cell_Same (a0 : cell_Cell) (a1 : cell_Cell) (a2 : List UInt8) : Option Bool :=
  bnd (if (a0.fKept == a1.fKept) = true then
    bnd (cell_Cell_Bytes a0 a2) fun x4 =>
    bnd (cell_Cell_Bytes a1 a2) fun x5 =>
    bnd (bytes_Equal x4 x5) fun x6 =>
    some (!x6)
  else
    some true : Option Bool) fun t1 =>
  if t1 = true then
    some false
  else
    bnd (if a0.fKept = true then
      bnd (arena_Arena_Bytes a0.fRaw a2) fun x11 =>
      bnd (arena_Arena_Bytes a1.fRaw a2) fun x12 =>
      bnd (bytes_Equal x11 x12) fun x13 =>
      some x13
    else
      some true : Option Bool) fun t8 =>
    some t8
theorem cell_Same_c {a0 : cell_Cell} {a1 : cell_Cell} {a2 : List UInt8} {b0 : Nat} {v1 : Value} {res : Bool} (h0 : cell_Same a0 a1 a2 = some res) : CallF X 162 [dP b0, .agg [.sl 2 (List.map e_arena_Span a0.fText.fL), dN a0.fText.fN, dN a0.fRaw.fAt, dN a0.fRaw.fN, dT a0.fKept], .agg [.sl 2 (List.map e_arena_Span a1.fText.fL), dN a1.fText.fN, dN a1.fRaw.fAt, dN a1.fRaw.fN, dT a1.fKept]] [.var b0 [.val v1] 264, .row v1 (lB a2) 1 5] (fun x => (dT res)) (fun x => [.var b0 [.val v1] 264, .row v1 (lB a2) 1 5]) := by
 unfold cell_Same at h0
 refine CallF.mkG (X := X) rfl Tryz.func162 rfl rfl Tryz.ntmps162 rfl rfl ?_
 refine aS ?_
 refine TL.op1 (OpR.boxImm rfl rfl) rfl ?_
 refine TL.op1 (OpR.boxImm rfl rfl) rfl ?_
 refine aA rfl rfl ?_
 refine aN rfl ?_
 refine T.seq ?_
 refine T.seq ?_
 obtain ⟨t1, ht1, h0⟩ := bS h0
 refine T.cutC (fun S' => S' = ⟨[(21, (dT t1)), (6, (dT false)), (5, .nod [.sl 2 (List.map e_arena_Span a1.fText.fL), dN a1.fText.fN, dN a1.fRaw.fAt, dN a1.fRaw.fN, dT a1.fKept]), (4, .nod [.sl 2 (List.map e_arena_Span a0.fText.fL), dN a0.fText.fN, dN a0.fRaw.fAt, dN a0.fRaw.fN, dT a0.fKept]), (0, (dP b0))], [.var b0 [.val v1] 264, .row v1 (lB a2) 1 5], 36⟩) (fun _ h => h) ?_ ?_
 · rcases ite_some ht1 with ⟨c3, ht1⟩ | ⟨c3, ht1⟩
   rotate_left
   · refine T.drawQ drawsX [.nod [dT a0.fKept], dT a0.fKept, .nod [dT a1.fKept], dT a1.fKept, dT (!(a0.fKept == a1.fKept)), dT (!(a0.fKept == a1.fKept)), .tup [], .tup [], .tup [], .tup [], .tup [], .tup [], .tup [], .tup [], dT true] [0, 4, 5, 6, 21] (by decide +kernel) rfl ?_ rfl ?_
     rotate_left
     · obtain rfl := osi ht1
       exact ⟨_, Gst.only [0, 4, 5, 6, 21] rfl, rfl⟩
     iterate 4 refine aB rfl rfl rfl ?_
     refine OpsQ.yes (Want.plain rfl) rfl (OpR.neBool rfl rfl rfl rfl) ?_
     refine aB rfl rfl rfl ?_
     refine OpsQ.no (Want.bool rfl rfl rfl rfl (by rw [(not_f (eq_false_of_ne_true c3))]; rfl)) rfl ?_
     refine OpsQ.no (Want.bool rfl rfl rfl rfl (by rw [(not_f (eq_false_of_ne_true c3))]; rfl)) rfl ?_
     refine OpsQ.no (Want.bool rfl rfl rfl rfl (by rw [(not_f (eq_false_of_ne_true c3))]; rfl)) rfl ?_
     refine OpsQ.no (Want.bool rfl rfl rfl rfl (by rw [(not_f (eq_false_of_ne_true c3))]; rfl)) rfl ?_
     refine OpsQ.no (Want.bool rfl rfl rfl rfl (by rw [(not_f (eq_false_of_ne_true c3))]; rfl)) rfl ?_
     refine OpsQ.no (Want.bool rfl rfl rfl rfl (by rw [(not_f (eq_false_of_ne_true c3))]; rfl)) rfl ?_
     refine OpsQ.no (Want.bool rfl rfl rfl rfl (by rw [(not_f (eq_false_of_ne_true c3))]; rfl)) rfl ?_
     refine OpsQ.no (Want.bool rfl rfl rfl rfl (by rw [(not_f (eq_false_of_ne_true c3))]; rfl)) rfl ?_
     refine OpsQ.yes (Want.plain rfl) rfl (OpR.pickT rfl (not_f (eq_false_of_ne_true c3)) rfl) ?_
     exact OpsQ.nil
   obtain ⟨x4, hx4, ht1⟩ := bS ht1
   obtain ⟨x5, hx5, ht1⟩ := bS ht1
   obtain ⟨x6, hx6, ht1⟩ := bS ht1
   refine T.drawQ drawsX [.nod [dT a0.fKept], dT a0.fKept, .nod [dT a1.fKept], dT a1.fKept, dT (!(a0.fKept == a1.fKept)), dT (!(a0.fKept == a1.fKept)), .agg [.sl 2 (List.map e_arena_Span a0.fText.fL), dN a0.fText.fN, dN a0.fRaw.fAt, dN a0.fRaw.fN, dT a0.fKept], dP b0, .sl 1 (lB x4), .agg [.sl 2 (List.map e_arena_Span a1.fText.fL), dN a1.fText.fN, dN a1.fRaw.fAt, dN a1.fRaw.fN, dT a1.fKept], dP b0, .sl 1 (lB x5), dT x6, dT (!x6), dT (!x6)] [0, 4, 5, 6, 21] (by decide +kernel) rfl ?_ rfl ?_
   rotate_left
   · obtain rfl := osi ht1
     exact ⟨_, Gst.only [0, 4, 5, 6, 21] rfl, rfl⟩
   iterate 4 refine aB rfl rfl rfl ?_
   refine OpsQ.yes (Want.plain rfl) rfl (OpR.neBool rfl rfl rfl rfl) ?_
   refine aB rfl rfl rfl ?_
   refine OpsQ.yes (Want.bool rfl rfl rfl rfl (by rw [(not_t (c3))]; rfl)) rfl (OpR.pure rfl) ?_
   refine OpsQ.yes (Want.bool rfl rfl rfl rfl (by rw [(not_t (c3))]; rfl)) rfl (OpR.pure rfl) ?_
   refine OpsQ.yes (Want.bool rfl rfl rfl rfl (by rw [(not_t (c3))]; rfl)) rfl (OpR.call [0, 1] fn113 (cell_Cell_Bytes_c hx4) rfl rfl rfl (fun _ => rfl)) ?_
   refine OpsQ.yes (Want.bool rfl rfl rfl rfl (by rw [(not_t (c3))]; rfl)) rfl (OpR.pure rfl) ?_
   refine OpsQ.yes (Want.bool rfl rfl rfl rfl (by rw [(not_t (c3))]; rfl)) rfl (OpR.pure rfl) ?_
   refine OpsQ.yes (Want.bool rfl rfl rfl rfl (by rw [(not_t (c3))]; rfl)) rfl (OpR.call [0, 1] fn113 (cell_Cell_Bytes_c hx5) rfl rfl rfl (fun _ => rfl)) ?_
   refine OpsQ.yes (Want.bool rfl rfl rfl rfl (by rw [(not_t (c3))]; rfl)) rfl (OpR.call0 fn177 (bytes_Equal_c hx6) rfl) ?_
   refine OpsQ.yes (Want.bool rfl rfl rfl rfl (by rw [(not_t (c3))]; rfl)) rfl (OpR.pure rfl) ?_
   refine OpsQ.yes (Want.plain rfl) rfl (OpR.pickF rfl (not_t (c3)) rfl) ?_
   exact OpsQ.nil
 rintro _ rfl
 show T X _ _ _
 rcases ite_some h0 with ⟨c7, h0⟩ | ⟨c7, h0⟩
 · refine T.condT rfl (c7) ?_
   refine aS ?_
   refine aA rfl rfl ?_
   refine aN rfl ?_
   refine T.ret ?_
   obtain rfl := osi h0
   exact rO [0, 1] [6] rfl undef (cT rfl ResL.nil) rfl rfl rfl rfl
 refine T.condF rfl (eq_false_of_ne_true c7) ?_
 refine aK rfl ?_
 refine T.seq ?_
 obtain ⟨t8, ht8, h0⟩ := bS h0
 refine T.cutC (fun S' => S' = ⟨[(6, (dT t8))], [.var b0 [.val v1] 264, .row v1 (lB a2) 1 5], 36⟩) (fun _ h => h) ?_ ?_
 rotate_left
 · rintro _ rfl
   show T X _ _ _
   refine T.ret ?_
   obtain rfl := osi h0
   exact rO [0, 1] [6] rfl undef (cT rfl ResL.nil) rfl rfl rfl rfl
 rcases ite_some ht8 with ⟨c10, ht8⟩ | ⟨c10, ht8⟩
 rotate_left
 · refine T.drawQ drawsX [.nod [dT a0.fKept], dT a0.fKept, dT (!a0.fKept), dT (!a0.fKept), .tup [], .tup [], .tup [], .tup [], .tup [], .tup [], .tup [], .tup [], .tup [], dT true, dT true] [6] (by decide +kernel) rfl ?_ rfl ?_
   rotate_left
   · obtain rfl := osi ht8
     exact ⟨_, Gst.only [6] rfl, rfl⟩
   iterate 4 refine aB rfl rfl rfl ?_
   refine OpsQ.no (Want.bool rfl rfl rfl rfl (by rw [(not_f (eq_false_of_ne_true c10))]; rfl)) rfl ?_
   refine OpsQ.no (Want.bool rfl rfl rfl rfl (by rw [(not_f (eq_false_of_ne_true c10))]; rfl)) rfl ?_
   refine OpsQ.no (Want.bool rfl rfl rfl rfl (by rw [(not_f (eq_false_of_ne_true c10))]; rfl)) rfl ?_
   refine OpsQ.no (Want.bool rfl rfl rfl rfl (by rw [(not_f (eq_false_of_ne_true c10))]; rfl)) rfl ?_
   refine OpsQ.no (Want.bool rfl rfl rfl rfl (by rw [(not_f (eq_false_of_ne_true c10))]; rfl)) rfl ?_
   refine OpsQ.no (Want.bool rfl rfl rfl rfl (by rw [(not_f (eq_false_of_ne_true c10))]; rfl)) rfl ?_
   refine OpsQ.no (Want.bool rfl rfl rfl rfl (by rw [(not_f (eq_false_of_ne_true c10))]; rfl)) rfl ?_
   refine OpsQ.no (Want.bool rfl rfl rfl rfl (by rw [(not_f (eq_false_of_ne_true c10))]; rfl)) rfl ?_
   refine OpsQ.no (Want.bool rfl rfl rfl rfl (by rw [(not_f (eq_false_of_ne_true c10))]; rfl)) rfl ?_
   refine OpsQ.yes (Want.plain rfl) rfl (OpR.pickT rfl (not_f (eq_false_of_ne_true c10)) rfl) ?_
   refine aB rfl rfl rfl ?_
   exact OpsQ.nil
 obtain ⟨x11, hx11, ht8⟩ := bS ht8
 obtain ⟨x12, hx12, ht8⟩ := bS ht8
 obtain ⟨x13, hx13, ht8⟩ := bS ht8
 refine T.drawQ drawsX [.nod [dT a0.fKept], dT a0.fKept, dT (!a0.fKept), dT (!a0.fKept), dP b0, .nod [dN a0.fRaw.fAt, dN a0.fRaw.fN, dT a0.fKept], .agg [dN a0.fRaw.fAt, dN a0.fRaw.fN], .sl 1 (lB x11), dP b0, .nod [dN a1.fRaw.fAt, dN a1.fRaw.fN, dT a1.fKept], .agg [dN a1.fRaw.fAt, dN a1.fRaw.fN], .sl 1 (lB x12), dT x13, dT x13, dT x13] [6] (by decide +kernel) rfl ?_ rfl ?_
 rotate_left
 · obtain rfl := osi ht8
   exact ⟨_, Gst.only [6] rfl, rfl⟩
 iterate 4 refine aB rfl rfl rfl ?_
 refine OpsQ.yes (Want.bool rfl rfl rfl rfl (by rw [(not_t (c10))]; rfl)) rfl (OpR.pure rfl) ?_
 refine OpsQ.yes (Want.bool rfl rfl rfl rfl (by rw [(not_t (c10))]; rfl)) rfl (OpR.pure rfl) ?_
 refine OpsQ.yes (Want.bool rfl rfl rfl rfl (by rw [(not_t (c10))]; rfl)) rfl (OpR.pure rfl) ?_
 refine OpsQ.yes (Want.bool rfl rfl rfl rfl (by rw [(not_t (c10))]; rfl)) rfl (OpR.call [0, 1] fn201 (arena_Arena_Bytes_c hx11) rfl rfl rfl (fun _ => rfl)) ?_
 refine OpsQ.yes (Want.bool rfl rfl rfl rfl (by rw [(not_t (c10))]; rfl)) rfl (OpR.pure rfl) ?_
 refine OpsQ.yes (Want.bool rfl rfl rfl rfl (by rw [(not_t (c10))]; rfl)) rfl (OpR.pure rfl) ?_
 refine OpsQ.yes (Want.bool rfl rfl rfl rfl (by rw [(not_t (c10))]; rfl)) rfl (OpR.pure rfl) ?_
 refine OpsQ.yes (Want.bool rfl rfl rfl rfl (by rw [(not_t (c10))]; rfl)) rfl (OpR.call [0, 1] fn201 (arena_Arena_Bytes_c hx12) rfl rfl rfl (fun _ => rfl)) ?_
 refine OpsQ.yes (Want.bool rfl rfl rfl rfl (by rw [(not_t (c10))]; rfl)) rfl (OpR.call0 fn177 (bytes_Equal_c hx13) rfl) ?_
 refine OpsQ.yes (Want.plain rfl) rfl (OpR.pickF rfl (not_t (c10)) rfl) ?_
 refine aB rfl rfl rfl ?_
 exact OpsQ.nil
noncomputable def row_Same_1 (a0 : cell_Cell) (a1 : cell_Cell) (a2 : List UInt8) : Option Bool :=
  bnd (cell_Same a0 a1 a2) fun x1 =>
  some x1
theorem row_Same_1_c {a0 : cell_Cell} {a1 : cell_Cell} {a2 : List UInt8} {b0 : Nat} {b1 : Nat} {v2 : Value} {res : Bool} (h0 : row_Same_1 a0 a1 a2 = some res) : CallF X 161 [.agg [.sl 2 (List.map e_arena_Span a0.fText.fL), dN a0.fText.fN, dN a0.fRaw.fAt, dN a0.fRaw.fN, dT a0.fKept], .agg [.sl 2 (List.map e_arena_Span a1.fText.fL), dN a1.fText.fN, dN a1.fRaw.fAt, dN a1.fRaw.fN, dT a1.fKept], dP b0] [.var b0 [dP b1] 28, .var b1 [.val v2] 264, .row v2 (lB a2) 1 5] (fun x => (dT res)) (fun x => [.var b0 [dP b1] 28, .var b1 [.val v2] 264, .row v2 (lB a2) 1 5]) := by
 unfold row_Same_1 at h0
 refine CallF.mkG (X := X) rfl Tryz.func161 rfl rfl Tryz.ntmps161 rfl rfl ?_
 refine aS ?_
 refine TL.op1 (OpR.boxImm rfl rfl) rfl ?_
 refine TL.op1 (OpR.boxImm rfl rfl) rfl ?_
 refine aA rfl rfl ?_
 refine aN rfl ?_
 refine aS ?_
 refine TL.op1 (OpR.loadPtr 0 rfl rfl rfl rfl) rfl ?_
 iterate 2 refine aA rfl rfl ?_
 obtain ⟨x1, hx1, h0⟩ := bS h0
 refine TL.op1 (OpR.call [1, 2] fn162 (cell_Same_c hx1) rfl rfl rfl (fun _ => rfl)) rfl ?_
 refine aA rfl rfl ?_
 refine aN rfl ?_
 refine T.ret ?_
 obtain rfl := osi h0
 exact rO [0, 1, 2] [5] rfl undef (cT rfl ResL.nil) rfl rfl rfl rfl
noncomputable def slices_EqualFunc_cell_Cell_cell_Cell_cell_Cell_cell_Cell.l1 (a0 : List cell_Cell) (a1 : List cell_Cell) (a2 : List UInt8) (s4 : Int) : Option (Lp Int (Ex Unit Bool)) :=
  if s4 < (a0.length : Int) then
    bnd (idx a0 s4) fun x13 =>
    bnd (idx a1 s4) fun x15 =>
    bnd (row_Same_1 x13 x15 a2) fun x17 =>
    if x17 = true then
      some (Lp.next (w64 (s4 + 1)))
    else
      some (Lp.done (Ex.ret false))
  else
    some (Lp.done (Ex.brk ()))
noncomputable def slices_EqualFunc_cell_Cell_cell_Cell_cell_Cell_cell_Cell (a0 : List cell_Cell) (a1 : List cell_Cell) (a2 : List UInt8) : Option Bool :=
  if (a0.length : Int) = (a1.length : Int) then
    bnd (loop (slices_EqualFunc_cell_Cell_cell_Cell_cell_Cell_cell_Cell.l1 a0 a1 a2) 0 : Option (Ex Unit Bool)) fun t2 => match t2 with
      | .brk u3 =>
        some true
      | .ret u3 => some u3
  else
    some false
theorem slices_EqualFunc_cell_Cell_cell_Cell_cell_Cell_cell_Cell_c {a0 : List cell_Cell} {a1 : List cell_Cell} {a2 : List UInt8} {b0 : Nat} {b1 : Nat} {v2 : Value} {res : Bool} (h0 : slices_EqualFunc_cell_Cell_cell_Cell_cell_Cell_cell_Cell a0 a1 a2 = some res) : CallF X 160 [.sl 5 (List.map e_cell_Cell a0), .sl 5 (List.map e_cell_Cell a1), .fn (.func 161) [] [dP b0]] [.var b0 [dP b1] 28, .var b1 [.val v2] 264, .row v2 (lB a2) 1 5] (fun x => (dT res)) (fun x => [.var b0 [dP b1] 28, .var b1 [.val v2] 264, .row v2 (lB a2) 1 5]) := by
 unfold slices_EqualFunc_cell_Cell_cell_Cell_cell_Cell_cell_Cell at h0
 refine CallF.mkG (X := X) rfl Tryz.func160 rfl rfl Tryz.ntmps160 rfl rfl ?_
 refine aS ?_
 refine aA rfl rfl ?_
 refine aN rfl ?_
 refine T.seq ?_
 refine aS ?_
 refine aA rfl rfl ?_
 refine TL.op1 (OpR.cast (OpR.pure rfl) (intE (lenM _ _))) rfl ?_
 refine aA rfl rfl ?_
 refine TL.op1 (OpR.cast (OpR.pure rfl) (intE (lenM _ _))) rfl ?_
 refine aA rfl rfl ?_
 refine aN rfl ?_
 rcases ite_some h0 with ⟨c1, h0⟩ | ⟨c1, h0⟩
 rotate_left
 · refine T.condT rfl (not_f (beq_eq_false_iff_ne.2 c1)) ?_
   refine aS ?_
   refine aA rfl rfl ?_
   refine aN rfl ?_
   refine T.ret ?_
   obtain rfl := osi h0
   exact rO [0, 1, 2] [6] rfl undef (cT rfl ResL.nil) rfl rfl rfl rfl
 refine T.condF rfl (not_t (beq_iff_eq.2 c1)) ?_
 refine aK rfl ?_
 refine T.seq ?_
 refine aS ?_
 refine aA rfl rfl ?_
 refine TL.op1 (OpR.cast (OpR.pure rfl) (intE (lenM _ _))) rfl ?_
 refine aA rfl rfl ?_
 refine aN rfl ?_
 obtain ⟨t2, ht2, h0⟩ := bS h0
 refine T.cutC (fun S' => ∃ u3, t2 = Ex.brk u3 ∧ S' = ⟨[(6, (dT false))], [.var b0 [dP b1] 28, .var b1 [.val v2] 264, .row v2 (lB a2) 1 5], 32⟩) (fun _ h => h) ?_ ?_
 rotate_left
 · rintro _ ⟨u3, rfl, rfl⟩
   show T X _ _ _
   refine aS ?_
   refine aA rfl rfl ?_
   refine aN rfl ?_
   refine T.ret ?_
   obtain rfl := osi h0
   exact rO [0, 1, 2] [6] rfl undef (cT rfl ResL.nil) rfl rfl rfl rfl
 refine T.block ?_
 obtain ⟨n5, n10⟩ := loop_some ht2
 refine T.loop (fun n S' => ∃ S'', Gst S' S'' ∧ ∃ s4 : Int, S'' = ⟨[(17, (dN s4)), (16, (dN (a0.length : Int))), (15, .sl 5 (List.map e_cell_Cell a0)), (6, (dT false)), (2, .fn (.func 161) [] [dP b0]), (1, .sl 5 (List.map e_cell_Cell a1))], [.var b0 [dP b1] 28, .var b1 [.val v2] 264, .row v2 (lB a2) 1 5], 32⟩ ∧ iter (slices_EqualFunc_cell_Cell_cell_Cell_cell_Cell_cell_Cell.l1 a0 a1 a2) n s4 = some t2) n5 ?_ ?_
 · exact ⟨_, Gst.only [1, 2, 6, 15, 16, 17] rfl, 0, rfl, n10⟩
 rintro n5 _ ⟨_, g, s4, rfl, i9⟩
 refine T.ghost g ?_
 obtain ⟨m6, q7, rfl, q8, i9⟩ := iter_succ i9
 unfold slices_EqualFunc_cell_Cell_cell_Cell_cell_Cell_cell_Cell.l1 at q8
 refine aS ?_
 refine aA rfl rfl ?_
 refine aN rfl ?_
 refine T.seq ?_
 rcases ite_some q8 with ⟨c12, q8⟩ | ⟨c12, q8⟩
 rotate_left
 · refine T.condF rfl (eF c12) ?_
   refine T.exit ?_
   obtain rfl := osi q8
   obtain rfl : _ = _ := i9
   exact ⟨_, Gst.only [6] rfl, _, rfl, rfl⟩
 refine T.condT rfl (eT c12) ?_
 refine aK rfl ?_
 refine T.seq ?_
 refine T.block ?_
 refine aS ?_
 refine aA rfl rfl ?_
 obtain ⟨x13, hx13, q8⟩ := bS q8
 refine TL.op1 (OpR.indexM e_cell_Cell hx13 rfl rfl rfl rfl rfl) rfl ?_
 refine aA rfl rfl ?_
 refine TL.op (OpR.alloc rfl rfl (fun _ => rfl)) rfl (fun p14 => ?_)
 refine aA rfl rfl ?_
 refine TL.op0 (OpR.store 3 rfl rfl rfl rfl rfl rfl rfl rfl) ?_
 refine aN rfl ?_
 refine aS ?_
 iterate 2 refine aA rfl rfl ?_
 obtain ⟨x15, hx15, q8⟩ := bS q8
 refine TL.op1 (OpR.indexM e_cell_Cell hx15 rfl rfl rfl rfl rfl) rfl ?_
 refine aA rfl rfl ?_
 refine TL.op (OpR.alloc rfl rfl (fun _ => rfl)) rfl (fun p16 => ?_)
 refine TL.op0 (OpR.store 4 rfl rfl rfl rfl rfl rfl rfl rfl) ?_
 refine aN rfl ?_
 refine aS ?_
 refine aA rfl rfl ?_
 refine TL.op1 (OpR.loadPtr 3 rfl rfl rfl rfl) rfl ?_
 refine TL.op1 (OpR.loadPtr 4 rfl rfl rfl rfl) rfl ?_
 obtain ⟨x17, hx17, q8⟩ := bS q8
 refine TL.op1 (OpR.callV [0, 1, 2] rfl fn161 (row_Same_1_c hx17) rfl rfl rfl (fun _ => rfl)) rfl ?_
 refine aA rfl rfl ?_
 refine aN rfl ?_
 rcases ite_some q8 with ⟨c18, q8⟩ | ⟨c18, q8⟩
 · refine T.condF rfl (not_t (c18)) ?_
   refine aK rfl ?_
   refine T.region ?_
   iterate 2 refine aA rfl rfl ?_
   refine TL.nil ?_
   obtain rfl := osi q8
   exact ⟨m6, Nat.lt_succ_self _, _, gP [1, 2, 6, 15, 16, 17] [0, 1, 2] rfl rfl rfl, w64 (s4 + 1), rfl, i9⟩
 refine T.condT rfl (not_f (eq_false_of_ne_true c18)) ?_
 refine aS ?_
 refine aA rfl rfl ?_
 refine aN rfl ?_
 refine T.ret ?_
 obtain rfl := osi q8
 obtain rfl : _ = _ := i9
 obtain rfl := osi h0
 exact rP [0, 1, 2] [6] [0, 1, 2] rfl rfl rfl undef (cT rfl ResL.nil) rfl rfl rfl rfl
noncomputable def row_Same (a0 : row_Row) (a1 : row_Row) (a2 : List UInt8) : Option Bool :=
  bnd (if a0.fEnd = a1.fEnd then
    some (!(a0.fHidden == a1.fHidden))
  else
    some true : Option Bool) fun t2 =>
  if t2 = true then
    some false
  else
    bnd (slices_EqualFunc_cell_Cell_cell_Cell_cell_Cell_cell_Cell a0.fCells a1.fCells a2) fun x5 =>
    some x5
theorem row_Same_c {a0 : row_Row} {a1 : row_Row} {a2 : List UInt8} {b0 : Nat} {v1 : Value} {res : Bool} (h0 : row_Same a0 a1 a2 = some res) : CallF X 88 [dP b0, .agg [.sl 5 (List.map e_cell_Cell a0.fCells), dN a0.fEnd, dT a0.fHidden], .agg [.sl 5 (List.map e_cell_Cell a1.fCells), dN a1.fEnd, dT a1.fHidden]] [.var b0 [.val v1] 264, .row v1 (lB a2) 1 5] (fun x => (dT res)) (fun x => [.var b0 [.val v1] 264, .row v1 (lB a2) 1 5]) := by
 unfold row_Same at h0
 refine CallF.mkG (X := X) rfl Tryz.func88 rfl rfl Tryz.ntmps88 rfl rfl ?_
 refine aS ?_
 refine TL.op (OpR.boxVar rfl rfl (fun _ => rfl)) rfl (fun p1 => ?_)
 refine TL.op1 (OpR.boxImm rfl rfl) rfl ?_
 refine TL.op1 (OpR.boxImm rfl rfl) rfl ?_
 refine aA rfl rfl ?_
 refine aN rfl ?_
 refine T.seq ?_
 refine T.seq ?_
 obtain ⟨t2, ht2, h0⟩ := bS h0
 refine T.cutC (fun S' => S' = ⟨[(18, (dT t2)), (6, (dT false)), (5, .nod [.sl 5 (List.map e_cell_Cell a1.fCells), dN a1.fEnd, dT a1.fHidden]), (4, .nod [.sl 5 (List.map e_cell_Cell a0.fCells), dN a0.fEnd, dT a0.fHidden]), (3, (dP (blk p1)))], [.var b0 [.val v1] 264, .row v1 (lB a2) 1 5, .var (blk p1) [dP b0] 28], 25⟩) (fun _ h => h) ?_ ?_
 rotate_left
 · rintro _ rfl
   show T X _ _ _
   rcases ite_some h0 with ⟨c4, h0⟩ | ⟨c4, h0⟩
   · refine T.condT rfl (c4) ?_
     refine aS ?_
     refine aA rfl rfl ?_
     refine aN rfl ?_
     refine T.ret ?_
     obtain rfl := osi h0
     exact rP [0, 1] [6] [0, 1] rfl rfl rfl undef (cT rfl ResL.nil) rfl rfl rfl rfl
   refine T.condF rfl (eq_false_of_ne_true c4) ?_
   refine aK rfl ?_
   refine aS ?_
   iterate 5 refine aA rfl rfl ?_
   obtain ⟨x5, hx5, h0⟩ := bS h0
   refine TL.op1 (OpR.call [2, 0, 1] fn160 (slices_EqualFunc_cell_Cell_cell_Cell_cell_Cell_cell_Cell_c hx5) rfl rfl rfl (fun _ => rfl)) rfl ?_
   refine aA rfl rfl ?_
   refine aN rfl ?_
   refine T.ret ?_
   obtain rfl := osi h0
   exact rP [0, 1] [6] [0, 1] rfl rfl rfl undef (cT rfl ResL.nil) rfl rfl rfl rfl
 refine T.region ?_
 iterate 6 refine aA rfl rfl ?_
 rcases ite_some ht2 with ⟨c3, ht2⟩ | ⟨c3, ht2⟩
 rotate_left
 · refine TL.off rfl rfl rfl rfl (not_f (beq_eq_false_iff_ne.2 c3)) rfl rfl ?_
   refine TL.off rfl rfl rfl rfl (not_f (beq_eq_false_iff_ne.2 c3)) rfl rfl ?_
   refine TL.off rfl rfl rfl rfl (not_f (beq_eq_false_iff_ne.2 c3)) rfl rfl ?_
   refine TL.off rfl rfl rfl rfl (not_f (beq_eq_false_iff_ne.2 c3)) rfl rfl ?_
   refine TL.off rfl rfl rfl rfl (not_f (beq_eq_false_iff_ne.2 c3)) rfl rfl ?_
   refine TL.op1 (OpR.pickT rfl (not_f (beq_eq_false_iff_ne.2 c3)) rfl) rfl ?_
   refine TL.nil ?_
   obtain rfl := osi ht2
   exact ⟨_, Gst.only [3, 4, 5, 6, 18] rfl, rfl⟩
 refine TL.on rfl rfl rfl rfl (not_t (beq_iff_eq.2 c3)) ?_
 refine aA rfl rfl ?_
 refine TL.on rfl rfl rfl rfl (not_t (beq_iff_eq.2 c3)) ?_
 refine aA rfl rfl ?_
 refine TL.on rfl rfl rfl rfl (not_t (beq_iff_eq.2 c3)) ?_
 refine aA rfl rfl ?_
 refine TL.on rfl rfl rfl rfl (not_t (beq_iff_eq.2 c3)) ?_
 refine aA rfl rfl ?_
 refine TL.on rfl rfl rfl rfl (not_t (beq_iff_eq.2 c3)) ?_
 refine TL.op1 (OpR.neBool rfl rfl rfl rfl) rfl ?_
 refine TL.op1 (OpR.pickF rfl (not_t (beq_iff_eq.2 c3)) rfl) rfl ?_
 refine TL.nil ?_
 obtain rfl := osi ht2
 exact ⟨_, Gst.only [3, 4, 5, 6, 18] rfl, rfl⟩
noncomputable def grid_Same_r0 (a0 : Int) (a1 : row_Row) (a2 : Option NP) (a3 : Bool) (a4 : Int) (a5 : Bool) (a6 : List UInt8) : Option (Unit ⊕ Bool) :=
  bnd (grid_Grid_Row (⟨(⟨a2⟩ : tTr), a3, a4⟩ : grid_Grid) a0) fun x32 =>
  bnd (row_Same a1 x32.1 a6) fun x34 =>
  if x34 = true then
    some (Sum.inl ())
  else
    some (Sum.inr false)
theorem grid_Same_r0_c {a0 : Int} {a1 : row_Row} {a2 : Option NP} {a3 : Bool} {a4 : Int} {a5 : Bool} {a6 : List UInt8} {b0 : Nat} {b1 : Nat} {b2 : Nat} {v3 : Value} {res : Unit ⊕ Bool} (h0 : grid_Same_r0 a0 a1 a2 a3 a4 a5 a6 = some res) : RoundF X b0 [dN a0, .agg [.sl 5 (List.map e_cell_Cell a1.fCells), dN a1.fEnd, dT a1.fHidden]] [.lp b0 .ready none [35, 36] rfA28_0 rfB28_0 [(6, (dP b2)), (5, .nod [(eOP a2), dT a3, dN a4]), (3, .nod [dP b1])] 48, .var b1 [.val v3] 264, .var b2 [dT a5] 4, .row v3 (lB a6) 1 5] (fun x => (match res with | .inl res => (dT true) | .inr res => (dT false))) (fun x => (match res with | .inl res => [.lp b0 .ready none [35, 36] rfA28_0 rfB28_0 [(6, (dP b2)), (5, .nod [(eOP a2), dT a3, dN a4]), (3, .nod [dP b1])] 48, .var b1 [.val v3] 264, .var b2 [dT a5] 4, .row v3 (lB a6) 1 5] | .inr res => [.lp b0 .done (some (.ret)) [35, 36] rfA28_0 rfB28_0 [(6, (dP b2)), (5, .nod [(eOP a2), dT a3, dN a4]), (3, .nod [dP b1])] 48, .var b1 [.val v3] 264, .var b2 [dT res] 4, .row v3 (lB a6) 1 5])) := by
 unfold grid_Same_r0 at h0
 refine RoundF.mk (X := X) rfl rfl rfl ?_
 refine aS ?_
 refine aA rfl rfl ?_
 refine TL.nil ?_
 show T (X.inR b0) _ _ _
 refine T.region ?_
 refine TL.op (OpR.alloc rfl rfl (fun _ => rfl)) rfl (fun p31 => ?_)
 refine TL.op0 (OpR.store 4 rfl rfl rfl rfl rfl rfl rfl rfl) ?_
 refine TL.nil ?_
 refine RoundA.mk ?_
 refine T.block ?_
 refine aS ?_
 iterate 2 refine aA rfl rfl ?_
 obtain ⟨x32, hx32, h0⟩ := bS h0
 refine TL.op1 (OpR.call0 fn24 (grid_Grid_Row_c hx32) rfl) rfl ?_
 iterate 3 refine aA rfl rfl ?_
 refine TL.op (OpR.alloc rfl rfl (fun _ => rfl)) rfl (fun p33 => ?_)
 refine TL.op0 (OpR.store 5 rfl rfl rfl rfl rfl rfl rfl rfl) ?_
 refine aA rfl rfl ?_
 refine TL.nil ?_
 show T (X.inR b0) _ _ _
 refine aS ?_
 refine aA rfl rfl ?_
 refine TL.op1 (OpR.loadPtr 4 rfl rfl rfl rfl) rfl ?_
 refine TL.op1 (OpR.loadPtr 5 rfl rfl rfl rfl) rfl ?_
 obtain ⟨x34, hx34, h0⟩ := bS h0
 refine TL.op1 (OpR.call [1, 3] fn88 (row_Same_c hx34) rfl rfl rfl (fun _ => rfl)) rfl ?_
 refine aA rfl rfl ?_
 refine TL.nil ?_
 show T (X.inR b0) _ _ _
 rcases ite_some h0 with ⟨c35, h0⟩ | ⟨c35, h0⟩
 · refine T.condF rfl (not_t (c35)) ?_
   refine T.skip ?_
   obtain rfl := osi h0
   exact RoundG.mk (ks := [0, 1, 2, 3]) (gP [] [0, 1, 2, 3] rfl rfl rfl) undef rfl rfl rfl rfl rfl
 refine T.condT rfl (not_f (eq_false_of_ne_true c35)) ?_
 refine aS ?_
 refine TL.op0 (OpR.store 2 rfl rfl rfl rfl rfl rfl rfl rfl) ?_
 refine TL.nil ?_
 show T (X.inR b0) _ _ _
 refine T.ret ?_
 obtain rfl := osi h0
 exact RoundG.mk (ks := [0, 1, 2, 3]) (gP [] [0, 1, 2, 3] rfl rfl rfl) undef rfl rfl rfl rfl rfl
theorem grid_Same_r0_cx1 {a0 : Int} {a1 : row_Row} {a2 : Option NP} {a3 : Bool} {a4 : Int} {a5 : Bool} {a6 : List UInt8} {b0 : Nat} {b1 : Nat} {b2 : Nat} {v3 : Value} {res : Unit} (h0 : grid_Same_r0 a0 a1 a2 a3 a4 a5 a6 = some (Sum.inl res)) : RoundF X b0 [dN a0, .agg [.sl 5 (List.map e_cell_Cell a1.fCells), dN a1.fEnd, dT a1.fHidden]] [.lp b0 .ready none [35, 36] rfA28_0 rfB28_0 [(6, (dP b2)), (5, .nod [(eOP a2), dT a3, dN a4]), (3, .nod [dP b1])] 48, .var b1 [.val v3] 264, .var b2 [dT a5] 4, .row v3 (lB a6) 1 5] (fun x => (dT true)) (fun x => [.lp b0 .ready none [35, 36] rfA28_0 rfB28_0 [(6, (dP b2)), (5, .nod [(eOP a2), dT a3, dN a4]), (3, .nod [dP b1])] 48, .var b1 [.val v3] 264, .var b2 [dT a5] 4, .row v3 (lB a6) 1 5]) := grid_Same_r0_c h0
theorem grid_Same_r0_cx2 {a0 : Int} {a1 : row_Row} {a2 : Option NP} {a3 : Bool} {a4 : Int} {a5 : Bool} {a6 : List UInt8} {b0 : Nat} {b1 : Nat} {b2 : Nat} {v3 : Value} {res : Bool} (h0 : grid_Same_r0 a0 a1 a2 a3 a4 a5 a6 = some (Sum.inr res)) : RoundF X b0 [dN a0, .agg [.sl 5 (List.map e_cell_Cell a1.fCells), dN a1.fEnd, dT a1.fHidden]] [.lp b0 .ready none [35, 36] rfA28_0 rfB28_0 [(6, (dP b2)), (5, .nod [(eOP a2), dT a3, dN a4]), (3, .nod [dP b1])] 48, .var b1 [.val v3] 264, .var b2 [dT a5] 4, .row v3 (lB a6) 1 5] (fun x => (dT false)) (fun x => [.lp b0 .done (some (.ret)) [35, 36] rfA28_0 rfB28_0 [(6, (dP b2)), (5, .nod [(eOP a2), dT a3, dN a4]), (3, .nod [dP b1])] 48, .var b1 [.val v3] 264, .var b2 [dT res] 4, .row v3 (lB a6) 1 5]) := grid_Same_r0_c h0
noncomputable def walk_Range_row_Row_1_3.l1 (a0 : Option NP) (a1 : Bool) (a2 : Int) (a4 : Int) (a6 : Bool) (a7 : List UInt8) (s9 : Int × (List wFr)) : Option (Lp (Int × (List wFr)) (Ex Unit (Unit ⊕ Bool))) :=
  if s9.1 < a4 then
    bnd (walk_stack_row_Row_top s9.2) fun x18 =>
    bnd (idx s9.2 x18) fun x19 =>
    bnd (some x19.fN) fun q20 => match q20 with
      | none =>
        none
      | some z21 =>
        bnd (o_tNd z21) fun x23 =>
        bnd (if x19.fNext = (x23.fItems.length : Int) then
          bnd (walk_stack_row_Row_forth s9.2) fun x28 =>
          some x28.2
        else
          some s9.2 : Option (List wFr)) fun t25 =>
        bnd (walk_stack_row_Row_top t25) fun x30 =>
        bnd (idx t25 x30) fun x31 =>
        bnd (some x31.fN) fun q32 => match q32 with
          | none =>
            none
          | some z33 =>
            bnd (o_tNd z33) fun x35 =>
            bnd (idx x35.fItems x31.fNext) fun x37 =>
            bnd (grid_Same_r0 s9.1 x37 a0 a1 a2 a6 a7) fun x38 =>
            match x38 with
            | .inl x38 =>
                some (Lp.next (w64 (s9.1 + 1), (t25.set x30.toNat (⟨x31.fN, x31.fFirst, w64 (x31.fNext + 1)⟩ : wFr))))
            | .inr x38 =>
                some (Lp.done (Ex.ret (Sum.inr x38)))
  else
    some (Lp.done (Ex.brk ()))
noncomputable def walk_Range_row_Row_1_3 (a0 : Option NP) (a1 : Bool) (a2 : Int) (a3 : Int) (a4 : Int) (a5 : Option NP) (a6 : Bool) (a7 : List UInt8) : Option (Unit ⊕ Bool) :=
  if a3 = a4 then
    some (Sum.inl ())
  else
    bnd (tree_Tree_row_Row_Root (⟨a5⟩ : tTr)) fun x4 =>
    match x4 with
    | .inl x4 =>
        none
    | .inr x4 =>
        bnd (walk_stack_row_Row_down x4.1 x4.2.1 x4.2.2 0 a3) fun x5 =>
        bnd (loop (walk_Range_row_Row_1_3.l1 a0 a1 a2 a4 a6 a7) (a3, x5) : Option (Ex Unit (Unit ⊕ Bool))) fun t6 => match t6 with
          | .brk u7 =>
            some (Sum.inl ())
          | .ret u7 => some u7
theorem walk_Range_row_Row_1_3_c {a0 : Option NP} {a1 : Bool} {a2 : Int} {a3 : Int} {a4 : Int} {a5 : Option NP} {a6 : Bool} {a7 : List UInt8} {b0 : Nat} {b1 : Nat} {b2 : Nat} {b3 : Nat} {b4 : Nat} {b5 : Nat} {v6 : Value} {res : Unit ⊕ Bool} (h0 : walk_Range_row_Row_1_3 a0 a1 a2 a3 a4 a5 a6 a7 = some res) : CallF X 146 [.fn (.yield b0) [] [], dP b1, dP b2, dP b3] [.lp b0 .ready none [35, 36] rfA28_0 rfB28_0 [(6, (dP b5)), (5, .nod [(eOP a0), dT a1, dN a2]), (3, .nod [dP b4])] 48, .var b1 [dN a3] 3, .var b2 [dN a4] 3, .var b3 [(eOP a5)] 25, .var b4 [.val v6] 264, .var b5 [dT a6] 4, .row v6 (lB a7) 1 5] (fun x => (match res with | .inl res => .tup [] | .inr res => .tup [])) (fun x => (match res with | .inl res => [.lp b0 .ready none [35, 36] rfA28_0 rfB28_0 [(6, (dP b5)), (5, .nod [(eOP a0), dT a1, dN a2]), (3, .nod [dP b4])] 48, .var b1 [dN a3] 3, .var b2 [dN a4] 3, .var b3 [(eOP a5)] 25, .var b4 [.val v6] 264, .var b5 [dT a6] 4, .row v6 (lB a7) 1 5] | .inr res => [.lp b0 .done (some (.ret)) [35, 36] rfA28_0 rfB28_0 [(6, (dP b5)), (5, .nod [(eOP a0), dT a1, dN a2]), (3, .nod [dP b4])] 48, .var b1 [dN a3] 3, .var b2 [dN a4] 3, .var b3 [(eOP a5)] 25, .var b4 [.val v6] 264, .var b5 [dT res] 4, .row v6 (lB a7) 1 5])) := by
 unfold walk_Range_row_Row_1_3 at h0
 refine CallF.mkG (X := X) rfl Tryz.func146 rfl rfl Tryz.ntmps146 rfl rfl ?_
 refine T.seq ?_
 refine aS ?_
 refine TL.op1 (OpR.loadPtr 1 rfl rfl rfl rfl) rfl ?_
 refine TL.op1 (OpR.loadPtr 2 rfl rfl rfl rfl) rfl ?_
 refine aA rfl rfl ?_
 refine aN rfl ?_
 rcases ite_some h0 with ⟨c1, h0⟩ | ⟨c1, h0⟩
 · refine T.condT rfl (beq_iff_eq.2 c1) ?_
   refine T.ret ?_
   obtain rfl := osi h0
   exact rO [0, 1, 2, 3, 4, 5, 6] [] rfl undef ResL.nil rfl rfl rfl rfl
 refine T.condF rfl (beq_eq_false_iff_ne.2 c1) ?_
 refine aK rfl ?_
 refine aS ?_
 refine TL.op (OpR.alloc rfl rfl (fun _ => rfl)) rfl (fun p2 => ?_)
 refine aN rfl ?_
 refine T.seq ?_
 obtain ⟨x4, hx4, h0⟩ := bS h0
 rcases x4 with x4 | x4
 · dsimp only at h0
   exact (by cases h0)
 dsimp only at h0
 obtain ⟨x5, hx5, h0⟩ := bS h0
 refine T.drawS drawsX (fun env3 => [.agg [(eOP a5)], .nod [.sl 1 (List.map eNP x4.1), .sl 3 (List.map e_row_Row x4.2.1), dN x4.2.2], dN a3, .tup []]) (fun D env3 => [.lp b0 .ready none [35, 36] rfA28_0 rfB28_0 [(6, (dP b5)), (5, .nod [(eOP a0), dT a1, dN a2]), (3, .nod [dP b4])] 48, .var b1 [dN a3] 3, .var b2 [dN a4] 3, .var b3 [(eOP a5)] 25, .var b4 [.val v6] 264, .var b5 [dT a6] 4, .row v6 (lB a7) 1 5, (bif D 3 then .var (blk p2) [.val (vn (env3 3) 0)] 228 else .var (blk p2) [.val (.slice none 0 0)] 228)] ++ (bif D 3 then [.row (vn (env3 3) 0) (List.map e_wFr x5) 3 234] else [])) [0, 1, 0, 7] [0, 1, 2, 5] _ (by decide +kernel) (by decide +kernel) (fun _ => rfl) (fun _ => rfl) ?_ (fun _ => rfl) (fun _ => rfl) ?_
 · refine oT (.agg [(eOP a5)]) (fun _ _ => OpR.loadPtr 3 rfl rfl rfl rfl) ?_
   refine oT (.nod [.sl 1 (List.map eNP x4.1), .sl 3 (List.map e_row_Row x4.2.1), dN x4.2.2]) (fun _ _ => OpR.call0 fn148 (tree_Tree_row_Row_Root_cx2 hx4) rfl) ?_
   refine oT ((dN a3)) (fun _ _ => OpR.loadPtr 1 rfl rfl rfl rfl) ?_
   refine OpsS.cons' true ?_ (fun D hA env3 x j hj hD => match j, hj, hD with | 0, _, _ => rfl | 1, _, _ => rfl | 2, _, _ => rfl | 3, hj, _ => absurd rfl hj | _ + 4, _, _ => rfl) ?_
   · intro D env3 hA
     exact OpS.yp [(3, false)] ⟨hA.me, trivial⟩ (Want.plain rfl) (OpR.call [7] fn147 (walk_stack_row_Row_down_c hx5) rfl rfl rfl (fun _ => rfl)) (fun x => rfl) (fun x => rfl)
   exact trivial
 intro env3
 show T X _ _ _
 refine aS ?_
 refine TL.op1 (OpR.loadPtr 1 rfl rfl rfl rfl) rfl ?_
 refine aA rfl rfl ?_
 refine aN rfl ?_
 obtain ⟨t6, ht6, h0⟩ := bS h0
 refine T.cutN (fun S' => ∃ u7, t6 = Ex.brk u7 ∧ S' = ⟨[], [.lp b0 .ready none [35, 36] rfA28_0 rfB28_0 [(6, (dP b5)), (5, .nod [(eOP a0), dT a1, dN a2]), (3, .nod [dP b4])] 48, .var b1 [dN a3] 3, .var b2 [dN a4] 3, .var b3 [(eOP a5)] 25, .var b4 [.val v6] 264, .var b5 [dT a6] 4, .row v6 (lB a7) 1 5], 62⟩) (fun _ _ g ⟨h, S', ds, g', r⟩ => ⟨h, S', ds, Gst.trans g g', r⟩) ?_ ?_
 rotate_left
 · rintro _ ⟨u7, rfl, rfl⟩
   obtain rfl := osi h0
   exact PostG.finP (ks := [0, 1, 2, 3, 4, 5, 6]) (Gst.only [] rfl) undef ResL.nil rfl rfl rfl rfl
 refine T.block ?_
 obtain ⟨n10, n15⟩ := loop_some ht6
 refine T.loop (fun n S' => ∃ S'', Gst S' S'' ∧ ∃ y8 : Value, ∃ s9 : Int × (List wFr), S'' = ⟨[(6, (dN s9.1)), (5, (dP (blk p2))), (2, (dP b2)), (0, .fn (.yield b0) [] [])], [.lp b0 .ready none [35, 36] rfA28_0 rfB28_0 [(6, (dP b5)), (5, .nod [(eOP a0), dT a1, dN a2]), (3, .nod [dP b4])] 48, .var b1 [dN a3] 3, .var b2 [dN a4] 3, .var b3 [(eOP a5)] 25, .var b4 [.val v6] 264, .var b5 [dT a6] 4, .row v6 (lB a7) 1 5, .var (blk p2) [.val y8] 228, .row y8 (List.map e_wFr s9.2) 3 234], 62⟩ ∧ iter (walk_Range_row_Row_1_3.l1 a0 a1 a2 a4 a6 a7) n s9 = some t6) n10 ?_ ?_
 · exact ⟨_, Gst.only [0, 2, 5, 6] rfl, (vn (env3 3) 0), (a3, x5), rfl, n15⟩
 rintro n10 _ ⟨_, g, y8, s9, rfl, i14⟩
 refine T.ghost g ?_
 obtain ⟨m11, q12, rfl, q13, i14⟩ := iter_succ i14
 unfold walk_Range_row_Row_1_3.l1 at q13
 refine T.seq ?_
 refine aS ?_
 refine aA rfl rfl ?_
 refine TL.op1 (OpR.loadPtr 2 rfl rfl rfl rfl) rfl ?_
 refine aA rfl rfl ?_
 refine aN rfl ?_
 rcases ite_some q13 with ⟨c17, q13⟩ | ⟨c17, q13⟩
 rotate_left
 · refine T.condF rfl (eF c17) ?_
   refine T.exit ?_
   obtain rfl := osi q13
   obtain rfl : _ = _ := i14
   exact ⟨_, gP [] [0, 1, 2, 3, 4, 5, 6] rfl rfl rfl, _, rfl, rfl⟩
 refine T.condT rfl (eT c17) ?_
 refine aK rfl ?_
 refine T.seq ?_
 refine T.block ?_
 refine T.seq ?_
 refine aS ?_
 obtain ⟨x18, hx18, q13⟩ := bS q13
 refine TL.op1 (OpR.call [7, 8] fn149 (walk_stack_row_Row_top_c hx18) rfl rfl rfl (fun _ => rfl)) rfl ?_
 refine aA rfl rfl ?_
 refine aN rfl ?_
 refine T.seq ?_
 obtain ⟨x19, hx19, q13⟩ := bS q13
 obtain ⟨q20, hq20, q13⟩ := bS q13
 rcases q20 with _ | z21
 · dsimp only at q13
   exact (by cases q13)
 dsimp only at q13
 obtain ⟨x23, hx23, q13⟩ := bS q13
 rw [o_tNd_eq hx23] at hq20
 refine T.drawQ drawsX [.val (.pointer (some ⟨blk y8, x18.toNat * 3, none⟩)), .val (.pointer (some ⟨blk y8, x18.toNat * 3, none⟩)), .val (.pointer (some ⟨blk y8, x18.toNat * 3 + 2, none⟩)), dN x19.fNext, .val (.pointer (some ⟨blk y8, x18.toNat * 3, none⟩)), .val (.pointer (some ⟨blk y8, x18.toNat * 3, none⟩)), .val (.pointer (some ⟨blk y8, x18.toNat * 3, none⟩)), .nod [.sl 1 (List.map eNP x23.fKids), .sl 3 (List.map e_row_Row x23.fItems), dN x23.fN], .nod [.sl 1 (List.map eNP x23.fKids), .sl 3 (List.map e_row_Row x23.fItems), dN x23.fN], .nod [.sl 3 (List.map e_row_Row x23.fItems), dN x23.fN], .sl 3 (List.map e_row_Row x23.fItems), dN (x23.fItems.length : Int), dT (x19.fNext == (x23.fItems.length : Int))] [0, 2, 5, 6, 35] (by decide +kernel) rfl ?_ rfl ?_
 · iterate 3 refine aB rfl rfl rfl ?_
   refine OpsQ.yes (Want.plain rfl) rfl (OpR.rowLoadM (j := x18) e_wFr 8 hx19 rfl rfl rfl rfl) ?_
   iterate 3 refine aB rfl rfl rfl ?_
   refine OpsQ.yes (Want.plain rfl) rfl (OpR.cast (OpR.rowLoad0M (j := x18) e_wFr 8 hx19 rfl rfl rfl rfl) (congrArg eOP (osi hq20))) ?_
   iterate 3 refine aB rfl rfl rfl ?_
   refine OpsQ.yes (Want.plain rfl) rfl (OpR.cast (OpR.pure rfl) (intE (lenM _ _))) ?_
   refine aB rfl rfl rfl ?_
   exact OpsQ.nil
 show T X _ _ _
 obtain ⟨t25, ht25, q13⟩ := bS q13
 refine T.cutC (fun S' => ∃ y26 : Value, S' = ⟨[(6, (dN s9.1)), (5, (dP (blk p2))), (2, (dP b2)), (0, .fn (.yield b0) [] [])], [.lp b0 .ready none [35, 36] rfA28_0 rfB28_0 [(6, (dP b5)), (5, .nod [(eOP a0), dT a1, dN a2]), (3, .nod [dP b4])] 48, .var b1 [dN a3] 3, .var b2 [dN a4] 3, .var b3 [(eOP a5)] 25, .var b4 [.val v6] 264, .var b5 [dT a6] 4, .row v6 (lB a7) 1 5, .var (blk p2) [.val y26] 228, .row y26 (List.map e_wFr t25) 3 234], 62⟩) (fun _ h => h) ?_ ?_
 · rcases ite_some ht25 with ⟨c27, ht25⟩ | ⟨c27, ht25⟩
   rotate_left
   · refine T.condF rfl (beq_eq_false_iff_ne.2 c27) ?_
     refine T.skip ?_
     obtain rfl := osi ht25
     exact ⟨_, Gst.only [0, 2, 5, 6] rfl, y8, rfl⟩
   refine T.condT rfl (beq_iff_eq.2 c27) ?_
   refine T.region ?_
   obtain ⟨x28, hx28, ht25⟩ := bS ht25
   refine TL.op (OpR.call [7, 8] fn150 (walk_stack_row_Row_forth_c hx28) rfl rfl rfl (fun _ => rfl)) rfl (fun w29 => ?_)
   refine TL.nil ?_
   obtain rfl := osi ht25
   exact ⟨_, Gst.only [0, 2, 5, 6] rfl, (vn w29 0), rfl⟩
 rintro _ ⟨y26, rfl⟩
 show T X _ _ _
 refine aS ?_
 obtain ⟨x30, hx30, q13⟩ := bS q13
 refine TL.op1 (OpR.call [7, 8] fn149 (walk_stack_row_Row_top_c hx30) rfl rfl rfl (fun _ => rfl)) rfl ?_
 refine aA rfl rfl ?_
 refine aN rfl ?_
 refine T.seq ?_
 refine T.seq ?_
 obtain ⟨x31, hx31, q13⟩ := bS q13
 obtain ⟨q32, hq32, q13⟩ := bS q13
 rcases q32 with _ | z33
 · dsimp only at q13
   exact (by cases q13)
 dsimp only at q13
 obtain ⟨x35, hx35, q13⟩ := bS q13
 rw [o_tNd_eq hx35] at hq32
 obtain ⟨x37, hx37, q13⟩ := bS q13
 obtain ⟨x38, hx38, q13⟩ := bS q13
 rcases x38 with x38 | x38
 · dsimp only at q13
   refine T.drawQ drawsX [.fn (.yield b0) [] [], dN s9.1, .val (.pointer (some ⟨blk y26, x30.toNat * 3, none⟩)), .val (.pointer (some ⟨blk y26, x30.toNat * 3, none⟩)), .val (.pointer (some ⟨blk y26, x30.toNat * 3, none⟩)), .nod [.sl 1 (List.map eNP x35.fKids), .sl 3 (List.map e_row_Row x35.fItems), dN x35.fN], .nod [.sl 1 (List.map eNP x35.fKids), .sl 3 (List.map e_row_Row x35.fItems), dN x35.fN], .nod [.sl 3 (List.map e_row_Row x35.fItems), dN x35.fN], .sl 3 (List.map e_row_Row x35.fItems), .val (.pointer (some ⟨blk y26, x30.toNat * 3, none⟩)), .val (.pointer (some ⟨blk y26, x30.toNat * 3, none⟩)), .val (.pointer (some ⟨blk y26, x30.toNat * 3 + 2, none⟩)), dN x31.fNext, .nod [.sl 5 (List.map e_cell_Cell x37.fCells), dN x37.fEnd, dT x37.fHidden], .agg [.sl 5 (List.map e_cell_Cell x37.fCells), dN x37.fEnd, dT x37.fHidden], dT true, dT false] [0, 2, 5, 6, 8, 54] (by decide +kernel) rfl ?_ rfl ?_
   rotate_left
   · show T X _ _ _
     refine T.condF rfl rfl ?_
     refine aK rfl ?_
     refine T.region ?_
     iterate 3 refine aA rfl rfl ?_
     refine TL.op1 (OpR.rowLoadM (j := x30) e_wFr 8 hx31 rfl rfl rfl rfl) rfl ?_
     iterate 3 refine aA rfl rfl ?_
     refine TL.op0 (OpR.rowStoreM (j := x30) e_wFr (⟨x31.fN, x31.fFirst, w64 (x31.fNext + 1)⟩ : wFr) 8 hx31 rfl rfl rfl rfl rfl rfl rfl rfl rfl) ?_
     refine aN rfl ?_
     refine T.region ?_
     iterate 3 refine aA rfl rfl ?_
     refine TL.nil ?_
     obtain rfl := osi q13
     exact ⟨m11, Nat.lt_succ_self _, _, Gst.only [0, 2, 5, 6] rfl, y26, (w64 (s9.1 + 1), (t25.set x30.toNat (⟨x31.fN, x31.fFirst, w64 (x31.fNext + 1)⟩ : wFr))), rfl, i14⟩
   iterate 5 refine aB rfl rfl rfl ?_
   refine OpsQ.yes (Want.plain rfl) rfl (OpR.cast (OpR.rowLoad0M (j := x30) e_wFr 8 hx31 rfl rfl rfl rfl) (congrArg eOP (osi hq32))) ?_
   iterate 6 refine aB rfl rfl rfl ?_
   refine OpsQ.yes (Want.plain rfl) rfl (OpR.rowLoadM (j := x30) e_wFr 8 hx31 rfl rfl rfl rfl) ?_
   refine OpsQ.yes (Want.plain rfl) rfl (OpR.indexM e_row_Row hx37 rfl rfl rfl rfl rfl) ?_
   refine aB rfl rfl rfl ?_
   refine OpsQ.yes (Want.plain rfl) rfl (OpR.callY [0, 4, 5, 6] rfl (grid_Same_r0_cx1 hx38) rfl rfl rfl (fun _ => rfl)) ?_
   refine aB rfl rfl rfl ?_
   exact OpsQ.nil
 dsimp only at q13
 refine T.drawS drawsX (fun env36 => [.fn (.yield b0) [] [], dN s9.1, .val (.pointer (some ⟨blk y26, x30.toNat * 3, none⟩)), .val (.pointer (some ⟨blk y26, x30.toNat * 3, none⟩)), .val (.pointer (some ⟨blk y26, x30.toNat * 3, none⟩)), .nod [.sl 1 (List.map eNP x35.fKids), .sl 3 (List.map e_row_Row x35.fItems), dN x35.fN], .nod [.sl 1 (List.map eNP x35.fKids), .sl 3 (List.map e_row_Row x35.fItems), dN x35.fN], .nod [.sl 3 (List.map e_row_Row x35.fItems), dN x35.fN], .sl 3 (List.map e_row_Row x35.fItems), .val (.pointer (some ⟨blk y26, x30.toNat * 3, none⟩)), .val (.pointer (some ⟨blk y26, x30.toNat * 3, none⟩)), .val (.pointer (some ⟨blk y26, x30.toNat * 3 + 2, none⟩)), dN x31.fNext, .nod [.sl 5 (List.map e_cell_Cell x37.fCells), dN x37.fEnd, dT x37.fHidden], .agg [.sl 5 (List.map e_cell_Cell x37.fCells), dN x37.fEnd, dT x37.fHidden], dT false, dT true]) (fun D env36 => [(bif D 15 then .lp b0 .done (some (.ret)) [35, 36] rfA28_0 rfB28_0 [(6, (dP b5)), (5, .nod [(eOP a0), dT a1, dN a2]), (3, .nod [dP b4])] 48 else .lp b0 .ready none [35, 36] rfA28_0 rfB28_0 [(6, (dP b5)), (5, .nod [(eOP a0), dT a1, dN a2]), (3, .nod [dP b4])] 48), .var b1 [dN a3] 3, .var b2 [dN a4] 3, .var b3 [(eOP a5)] 25, .var b4 [.val v6] 264, (bif D 15 then .var b5 [dT x38] 4 else .var b5 [dT a6] 4), .row v6 (lB a7) 1 5, .var (blk p2) [.val y26] 228, .row y26 (List.map e_wFr t25) 3 234]) [0, 0, 0, 4, 12, 28, 60, 124, 252, 0, 512, 1536, 3584, 8188, 16380, 32767, 65535] [0, 2, 5, 6, 8, 54] _ (by decide +kernel) (by decide +kernel) (fun _ => rfl) (fun _ => rfl) ?_ (fun _ => rfl) (fun _ => rfl) ?_
 rotate_left
 · intro env36
   show T X _ _ _
   refine T.condT rfl rfl ?_
   refine T.ret ?_
   obtain rfl := osi q13
   obtain rfl : _ = _ := i14
   obtain rfl := osi h0
   exact rP [0, 1, 2, 3, 4, 5, 6] [] [0, 1, 2, 3, 4, 5, 6] rfl rfl rfl undef ResL.nil rfl rfl rfl rfl
 iterate 5 refine aC ?_
 refine oT (.nod [.sl 1 (List.map eNP x35.fKids), .sl 3 (List.map e_row_Row x35.fItems), dN x35.fN]) (fun _ _ => OpR.cast (OpR.rowLoad0M (j := x30) e_wFr 8 hx31 rfl rfl rfl rfl) (congrArg eOP (osi hq32))) ?_
 iterate 6 refine aC ?_
 refine oT ((dN x31.fNext)) (fun _ _ => OpR.rowLoadM (j := x30) e_wFr 8 hx31 rfl rfl rfl rfl) ?_
 refine oT (.nod [.sl 5 (List.map e_cell_Cell x37.fCells), dN x37.fEnd, dT x37.fHidden]) (fun _ _ => OpR.indexM e_row_Row hx37 rfl rfl rfl rfl rfl) ?_
 refine aC ?_
 refine OpsS.cons' true ?_ (fun _ _ _ _ _ _ _ => rfl) ?_
 · intro D env36 hA
   exact OpS.yp [(15, false)] ⟨hA.me, trivial⟩ (Want.plain rfl) (OpR.callY [0, 4, 5, 6] rfl (grid_Same_r0_cx2 hx38) rfl rfl rfl (fun _ => rfl)) (fun x => rfl) (fun x => rfl)
 refine aC ?_
 exact trivial
theorem walk_Range_row_Row_1_3_cx1 {a0 : Option NP} {a1 : Bool} {a2 : Int} {a3 : Int} {a4 : Int} {a5 : Option NP} {a6 : Bool} {a7 : List UInt8} {b0 : Nat} {b1 : Nat} {b2 : Nat} {b3 : Nat} {b4 : Nat} {b5 : Nat} {v6 : Value} {res : Unit} (h0 : walk_Range_row_Row_1_3 a0 a1 a2 a3 a4 a5 a6 a7 = some (Sum.inl res)) : CallF X 146 [.fn (.yield b0) [] [], dP b1, dP b2, dP b3] [.lp b0 .ready none [35, 36] rfA28_0 rfB28_0 [(6, (dP b5)), (5, .nod [(eOP a0), dT a1, dN a2]), (3, .nod [dP b4])] 48, .var b1 [dN a3] 3, .var b2 [dN a4] 3, .var b3 [(eOP a5)] 25, .var b4 [.val v6] 264, .var b5 [dT a6] 4, .row v6 (lB a7) 1 5] (fun x => .tup []) (fun x => [.lp b0 .ready none [35, 36] rfA28_0 rfB28_0 [(6, (dP b5)), (5, .nod [(eOP a0), dT a1, dN a2]), (3, .nod [dP b4])] 48, .var b1 [dN a3] 3, .var b2 [dN a4] 3, .var b3 [(eOP a5)] 25, .var b4 [.val v6] 264, .var b5 [dT a6] 4, .row v6 (lB a7) 1 5]) := walk_Range_row_Row_1_3_c h0
theorem walk_Range_row_Row_1_3_cx2 {a0 : Option NP} {a1 : Bool} {a2 : Int} {a3 : Int} {a4 : Int} {a5 : Option NP} {a6 : Bool} {a7 : List UInt8} {b0 : Nat} {b1 : Nat} {b2 : Nat} {b3 : Nat} {b4 : Nat} {b5 : Nat} {v6 : Value} {res : Bool} (h0 : walk_Range_row_Row_1_3 a0 a1 a2 a3 a4 a5 a6 a7 = some (Sum.inr res)) : CallF X 146 [.fn (.yield b0) [] [], dP b1, dP b2, dP b3] [.lp b0 .ready none [35, 36] rfA28_0 rfB28_0 [(6, (dP b5)), (5, .nod [(eOP a0), dT a1, dN a2]), (3, .nod [dP b4])] 48, .var b1 [dN a3] 3, .var b2 [dN a4] 3, .var b3 [(eOP a5)] 25, .var b4 [.val v6] 264, .var b5 [dT a6] 4, .row v6 (lB a7) 1 5] (fun x => .tup []) (fun x => [.lp b0 .done (some (.ret)) [35, 36] rfA28_0 rfB28_0 [(6, (dP b5)), (5, .nod [(eOP a0), dT a1, dN a2]), (3, .nod [dP b4])] 48, .var b1 [dN a3] 3, .var b2 [dN a4] 3, .var b3 [(eOP a5)] 25, .var b4 [.val v6] 264, .var b5 [dT res] 4, .row v6 (lB a7) 1 5]) := walk_Range_row_Row_1_3_c h0
noncomputable def grid_Same (a0 : grid_Grid) (a1 : grid_Grid) (a2 : List UInt8) : Option Bool :=
  bnd (bnd (grid_Grid_Len a0) fun x4 =>
  bnd (grid_Grid_Len a1) fun x5 =>
  if x4 = x5 then
    if (a0.fTail == a1.fTail) = true then
      some (!(a0.fEnd == a1.fEnd))
    else
      some true
  else
    some true : Option Bool) fun t2 =>
  if t2 = true then
    some false
  else
    bnd (grid_Grid_Len a0) fun x10 =>
    bnd (walk_Range_row_Row a0.fRows 0 x10) fun x11 =>
    bnd (walk_Range_row_Row_1_3 a1.fRows.fRoot a1.fTail a1.fEnd x11.1 x11.2.1 x11.2.2 false a2) fun x13 =>
    match x13 with
    | .inl x13 =>
        some true
    | .inr x13 =>
        some x13
theorem grid_Same_c {a0 : grid_Grid} {a1 : grid_Grid} {a2 : List UInt8} {b0 : Nat} {v1 : Value} {res : Bool} (h0 : grid_Same a0 a1 a2 = some res) : CallF X 28 [dP b0, .agg [(eOP a0.fRows.fRoot), dT a0.fTail, dN a0.fEnd], .agg [(eOP a1.fRows.fRoot), dT a1.fTail, dN a1.fEnd]] [.var b0 [.val v1] 264, .row v1 (lB a2) 1 5] (fun x => (dT res)) (fun x => [.var b0 [.val v1] 264, .row v1 (lB a2) 1 5]) := by
 unfold grid_Same at h0
 refine CallF.mkG (X := X) rfl Tryz.func28 rfl rfl Tryz.ntmps28 rfl rfl ?_
 refine aS ?_
 refine TL.op1 (OpR.boxImm rfl rfl) rfl ?_
 refine TL.op1 (OpR.boxImm rfl rfl) rfl ?_
 refine TL.op1 (OpR.boxImm rfl rfl) rfl ?_
 refine TL.op (OpR.alloc rfl rfl (fun _ => rfl)) rfl (fun p1 => ?_)
 refine aN rfl ?_
 refine T.seq ?_
 refine T.seq ?_
 obtain ⟨t2, ht2, h0⟩ := bS h0
 refine T.cutC (fun S' => S' = ⟨[(29, (dT t2)), (6, (dP (blk p1))), (5, .nod [(eOP a1.fRows.fRoot), dT a1.fTail, dN a1.fEnd]), (4, .nod [(eOP a0.fRows.fRoot), dT a0.fTail, dN a0.fEnd]), (3, .nod [dP b0])], [.var b0 [.val v1] 264, .row v1 (lB a2) 1 5, .var (blk p1) [dT false] 4], 48⟩) (fun _ h => h) ?_ ?_
 rotate_left
 · rintro _ rfl
   show T X _ _ _
   rcases ite_some h0 with ⟨c8, h0⟩ | ⟨c8, h0⟩
   · refine T.condT rfl (c8) ?_
     refine aS ?_
     refine TL.op0 (OpR.store 2 rfl rfl rfl rfl rfl rfl rfl rfl) ?_
     refine aN rfl ?_
     refine T.ret ?_
     obtain rfl := osi h0
     exact rO [0, 1] [6] rfl undef (cV 2 rfl rfl rfl rfl ResL.nil) rfl rfl rfl rfl
   refine T.condF rfl (eq_false_of_ne_true c8) ?_
   refine aK rfl ?_
   refine T.seq ?_
   refine T.seq ?_
   obtain ⟨x10, hx10, h0⟩ := bS h0
   obtain ⟨x11, hx11, h0⟩ := bS h0
   refine T.drawS drawsX (fun env9 => [.nod [(eOP a0.fRows.fRoot), dT a0.fTail, dN a0.fEnd], .agg [(eOP a0.fRows.fRoot)], .agg [(eOP a0.fRows.fRoot), dT a0.fTail, dN a0.fEnd], dN x10, .fn (.func 146) [] [dP (blk (vn (env9 4) 0)), dP (blk (vn (env9 4) 1)), dP (blk (vn (env9 4) 2))]]) (fun D env9 => [.var b0 [.val v1] 264, .row v1 (lB a2) 1 5, .var (blk p1) [dT false] 4] ++ (bif D 4 then [.var (blk (vn (env9 4) 0)) [dN x11.1] 3] else []) ++ (bif D 4 then [.var (blk (vn (env9 4) 1)) [dN x11.2.1] 3] else []) ++ (bif D 4 then [.var (blk (vn (env9 4) 2)) [(eOP x11.2.2)] 25] else [])) [0, 1, 0, 4, 15] [3, 5, 6, 34] _ (by decide +kernel) (by decide +kernel) (fun _ => rfl) (fun _ => rfl) ?_ (fun _ => rfl) (fun _ => rfl) ?_
   rotate_left
   · intro env9
     show T X _ _ _
     refine T.block ?_
     obtain ⟨x13, hx13, h0⟩ := bS h0
     rcases x13 with x13 | x13
     rotate_left
     · dsimp only at h0
       refine T.rangeJ (A := rfA28_0) (B := rfB28_0) (.ret) [3, 5, 6] [3, 4, 5, 0, 2, 1] (.inl rfl) rfl rfl rfl rfl rfl fn146 rfl rfl (fun l12 => (walk_Range_row_Row_1_3_cx2 hx13)) (fun _ => rfl) (fun w15 => ?_)
       refine T.ret ?_
       obtain rfl := osi h0
       exact rP [0, 1] [6] [0, 1, 2] rfl rfl rfl undef (cV 2 rfl rfl rfl rfl ResL.nil) rfl rfl rfl rfl
     dsimp only at h0
     refine T.rangeN (A := rfA28_0) (B := rfB28_0) [3, 5, 6] [3, 4, 5, 0, 2, 1] (.inl rfl) rfl rfl rfl rfl rfl fn146 rfl rfl (fun l12 => (walk_Range_row_Row_1_3_cx1 hx13)) (fun _ => rfl) (fun w14 => ?_)
     show T X _ _ _
     refine aS ?_
     refine TL.op0 (OpR.store 2 rfl rfl rfl rfl rfl rfl rfl rfl) ?_
     refine aN rfl ?_
     refine T.ret ?_
     obtain rfl := osi h0
     exact rP [0, 1] [6] [0, 1, 2] rfl rfl rfl undef (cV 2 rfl rfl rfl rfl ResL.nil) rfl rfl rfl rfl
   iterate 3 refine aC ?_
   refine oT ((dN x10)) (fun _ _ => OpR.call0 fn22 (grid_Grid_Len_c hx10) rfl) ?_
   refine OpsS.cons' true ?_ (fun D hA env9 x j hj hD => match j, hj, hD with | 0, _, _ => rfl | 1, _, _ => rfl | 2, _, _ => rfl | 3, _, _ => rfl | 4, hj, _ => absurd rfl hj | _ + 5, _, _ => rfl) ?_
   · intro D env9 hA
     exact OpS.yp [(4, false)] ⟨hA.me, trivial⟩ (Want.plain rfl) (OpR.call [] fn80 (walk_Range_row_Row_c hx11) rfl rfl rfl (fun _ => rfl)) (fun x => rfl) (fun x => rfl)
   exact trivial
 obtain ⟨x4, hx4, ht2⟩ := bS ht2
 obtain ⟨x5, hx5, ht2⟩ := bS ht2
 rcases ite_some ht2 with ⟨c6, ht2⟩ | ⟨c6, ht2⟩
 rotate_left
 · refine T.drawQ drawsX [.agg [(eOP a0.fRows.fRoot), dT a0.fTail, dN a0.fEnd], dN x4, .agg [(eOP a1.fRows.fRoot), dT a1.fTail, dN a1.fEnd], dN x5, dT (!(x4 == x5)), dT (!(x4 == x5)), .tup [], .tup [], .tup [], .tup [], .tup [], dT true, dT true, .tup [], .tup [], .tup [], .tup [], .tup [], dT true] [3, 4, 5, 6, 29] (by decide +kernel) rfl ?_ rfl ?_
   rotate_left
   · obtain rfl := osi ht2
     exact ⟨_, Gst.only [3, 4, 5, 6, 29] rfl, rfl⟩
   refine aB rfl rfl rfl ?_
   refine OpsQ.yes (Want.plain rfl) rfl (OpR.call0 fn22 (grid_Grid_Len_c hx4) rfl) ?_
   refine aB rfl rfl rfl ?_
   refine OpsQ.yes (Want.plain rfl) rfl (OpR.call0 fn22 (grid_Grid_Len_c hx5) rfl) ?_
   iterate 2 refine aB rfl rfl rfl ?_
   refine OpsQ.no (Want.bool rfl rfl rfl rfl (by rw [(not_f (beq_eq_false_iff_ne.2 c6))]; rfl)) rfl ?_
   refine OpsQ.no (Want.bool rfl rfl rfl rfl (by rw [(not_f (beq_eq_false_iff_ne.2 c6))]; rfl)) rfl ?_
   refine OpsQ.no (Want.bool rfl rfl rfl rfl (by rw [(not_f (beq_eq_false_iff_ne.2 c6))]; rfl)) rfl ?_
   refine OpsQ.no (Want.bool rfl rfl rfl rfl (by rw [(not_f (beq_eq_false_iff_ne.2 c6))]; rfl)) rfl ?_
   refine OpsQ.no (Want.bool rfl rfl rfl rfl (by rw [(not_f (beq_eq_false_iff_ne.2 c6))]; rfl)) rfl ?_
   refine OpsQ.yes (Want.plain rfl) rfl (OpR.pickT rfl (not_f (beq_eq_false_iff_ne.2 c6)) rfl) ?_
   refine aB rfl rfl rfl ?_
   refine OpsQ.no (Want.bool rfl rfl rfl rfl rfl) rfl ?_
   refine OpsQ.no (Want.bool rfl rfl rfl rfl rfl) rfl ?_
   refine OpsQ.no (Want.bool rfl rfl rfl rfl rfl) rfl ?_
   refine OpsQ.no (Want.bool rfl rfl rfl rfl rfl) rfl ?_
   refine OpsQ.no (Want.bool rfl rfl rfl rfl rfl) rfl ?_
   refine OpsQ.yes (Want.plain rfl) rfl (OpR.pickT rfl rfl rfl) ?_
   exact OpsQ.nil
 rcases ite_some ht2 with ⟨c7, ht2⟩ | ⟨c7, ht2⟩
 rotate_left
 · refine T.drawQ drawsX [.agg [(eOP a0.fRows.fRoot), dT a0.fTail, dN a0.fEnd], dN x4, .agg [(eOP a1.fRows.fRoot), dT a1.fTail, dN a1.fEnd], dN x5, dT (!(x4 == x5)), dT (!(x4 == x5)), .nod [dT a0.fTail, dN a0.fEnd], dT a0.fTail, .nod [dT a1.fTail, dN a1.fEnd], dT a1.fTail, dT (!(a0.fTail == a1.fTail)), dT (!(a0.fTail == a1.fTail)), dT (!(a0.fTail == a1.fTail)), .tup [], .tup [], .tup [], .tup [], .tup [], dT true] [3, 4, 5, 6, 29] (by decide +kernel) rfl ?_ rfl ?_
   rotate_left
   · obtain rfl := osi ht2
     exact ⟨_, Gst.only [3, 4, 5, 6, 29] rfl, rfl⟩
   refine aB rfl rfl rfl ?_
   refine OpsQ.yes (Want.plain rfl) rfl (OpR.call0 fn22 (grid_Grid_Len_c hx4) rfl) ?_
   refine aB rfl rfl rfl ?_
   refine OpsQ.yes (Want.plain rfl) rfl (OpR.call0 fn22 (grid_Grid_Len_c hx5) rfl) ?_
   iterate 2 refine aB rfl rfl rfl ?_
   refine OpsQ.yes (Want.bool rfl rfl rfl rfl (by rw [(not_t (beq_iff_eq.2 c6))]; rfl)) rfl (OpR.pure rfl) ?_
   refine OpsQ.yes (Want.bool rfl rfl rfl rfl (by rw [(not_t (beq_iff_eq.2 c6))]; rfl)) rfl (OpR.pure rfl) ?_
   refine OpsQ.yes (Want.bool rfl rfl rfl rfl (by rw [(not_t (beq_iff_eq.2 c6))]; rfl)) rfl (OpR.pure rfl) ?_
   refine OpsQ.yes (Want.bool rfl rfl rfl rfl (by rw [(not_t (beq_iff_eq.2 c6))]; rfl)) rfl (OpR.pure rfl) ?_
   refine OpsQ.yes (Want.bool rfl rfl rfl rfl (by rw [(not_t (beq_iff_eq.2 c6))]; rfl)) rfl (OpR.neBool rfl rfl rfl rfl) ?_
   refine OpsQ.yes (Want.plain rfl) rfl (OpR.pickF rfl (not_t (beq_iff_eq.2 c6)) rfl) ?_
   refine aB rfl rfl rfl ?_
   refine OpsQ.no (Want.bool rfl rfl rfl rfl (by rw [(not_f (eq_false_of_ne_true c7))]; rfl)) rfl ?_
   refine OpsQ.no (Want.bool rfl rfl rfl rfl (by rw [(not_f (eq_false_of_ne_true c7))]; rfl)) rfl ?_
   refine OpsQ.no (Want.bool rfl rfl rfl rfl (by rw [(not_f (eq_false_of_ne_true c7))]; rfl)) rfl ?_
   refine OpsQ.no (Want.bool rfl rfl rfl rfl (by rw [(not_f (eq_false_of_ne_true c7))]; rfl)) rfl ?_
   refine OpsQ.no (Want.bool rfl rfl rfl rfl (by rw [(not_f (eq_false_of_ne_true c7))]; rfl)) rfl ?_
   refine OpsQ.yes (Want.plain rfl) rfl (OpR.pickT rfl (not_f (eq_false_of_ne_true c7)) rfl) ?_
   exact OpsQ.nil
 refine T.drawQ drawsX [.agg [(eOP a0.fRows.fRoot), dT a0.fTail, dN a0.fEnd], dN x4, .agg [(eOP a1.fRows.fRoot), dT a1.fTail, dN a1.fEnd], dN x5, dT (!(x4 == x5)), dT (!(x4 == x5)), .nod [dT a0.fTail, dN a0.fEnd], dT a0.fTail, .nod [dT a1.fTail, dN a1.fEnd], dT a1.fTail, dT (!(a0.fTail == a1.fTail)), dT (!(a0.fTail == a1.fTail)), dT (!(a0.fTail == a1.fTail)), .nod [dN a0.fEnd], dN a0.fEnd, .nod [dN a1.fEnd], dN a1.fEnd, dT (!(a0.fEnd == a1.fEnd)), dT (!(a0.fEnd == a1.fEnd))] [3, 4, 5, 6, 29] (by decide +kernel) rfl ?_ rfl ?_
 rotate_left
 · obtain rfl := osi ht2
   exact ⟨_, Gst.only [3, 4, 5, 6, 29] rfl, rfl⟩
 refine aB rfl rfl rfl ?_
 refine OpsQ.yes (Want.plain rfl) rfl (OpR.call0 fn22 (grid_Grid_Len_c hx4) rfl) ?_
 refine aB rfl rfl rfl ?_
 refine OpsQ.yes (Want.plain rfl) rfl (OpR.call0 fn22 (grid_Grid_Len_c hx5) rfl) ?_
 iterate 2 refine aB rfl rfl rfl ?_
 refine OpsQ.yes (Want.bool rfl rfl rfl rfl (by rw [(not_t (beq_iff_eq.2 c6))]; rfl)) rfl (OpR.pure rfl) ?_
 refine OpsQ.yes (Want.bool rfl rfl rfl rfl (by rw [(not_t (beq_iff_eq.2 c6))]; rfl)) rfl (OpR.pure rfl) ?_
 refine OpsQ.yes (Want.bool rfl rfl rfl rfl (by rw [(not_t (beq_iff_eq.2 c6))]; rfl)) rfl (OpR.pure rfl) ?_
 refine OpsQ.yes (Want.bool rfl rfl rfl rfl (by rw [(not_t (beq_iff_eq.2 c6))]; rfl)) rfl (OpR.pure rfl) ?_
 refine OpsQ.yes (Want.bool rfl rfl rfl rfl (by rw [(not_t (beq_iff_eq.2 c6))]; rfl)) rfl (OpR.neBool rfl rfl rfl rfl) ?_
 refine OpsQ.yes (Want.plain rfl) rfl (OpR.pickF rfl (not_t (beq_iff_eq.2 c6)) rfl) ?_
 refine aB rfl rfl rfl ?_
 refine OpsQ.yes (Want.bool rfl rfl rfl rfl (by rw [(not_t (c7))]; rfl)) rfl (OpR.pure rfl) ?_
 refine OpsQ.yes (Want.bool rfl rfl rfl rfl (by rw [(not_t (c7))]; rfl)) rfl (OpR.pure rfl) ?_
 refine OpsQ.yes (Want.bool rfl rfl rfl rfl (by rw [(not_t (c7))]; rfl)) rfl (OpR.pure rfl) ?_
 refine OpsQ.yes (Want.bool rfl rfl rfl rfl (by rw [(not_t (c7))]; rfl)) rfl (OpR.pure rfl) ?_
 refine OpsQ.yes (Want.bool rfl rfl rfl rfl (by rw [(not_t (c7))]; rfl)) rfl (OpR.pure rfl) ?_
 refine OpsQ.yes (Want.plain rfl) rfl (OpR.pickF rfl (not_t (c7)) rfl) ?_
 exact OpsQ.nil
end Go.Proofs.YtpmhiiemklhbhaaGreat.S
